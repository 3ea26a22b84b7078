-- Written by a program of this session (wip/hook.py), which runs the kit's printer; Lean checks it.
import Derived.Test.YtihgpkohglcijaaPx0
import Derived.Test.YtihgpkohglcijaaPx1
namespace Go.Proofs.Ytihgpkohglcijaa.P
open Go.RowKit Go.Proofs.YtihgpkohglcijaaW.PrintWords Go.Proofs.YtihgpkohglcijaaW.PrintLast Go.Proofs.YtihgpkohglcijaaW.PrintMore
attribute [local go_sem] max2_int min2_int max_two min_two max_three min_three max_four min_four   -- for this text's walks alone
set_option linter.unusedVariables false
set_option linter.unusedSimpArgs false

attribute [local go_sem high] eqA26
/-! ### impl_isPrintable: function 117 -/
def impl_isPrintable.l0 : Nat → ByteArray → Int → Int → Option (Bool)
 | 0, _, _, _ => none
 | k + 1, x0, x5, x6 => if x6 < x5 then (if 0 ≤ x6 then (if x6 < (x0.size : Int) then (if (bt x0 x6) < 32 then (some false) else (if (bt x0 x6) > 126 then (some false) else (impl_isPrintable.l0 k x0 x5 (wrap64 (x6 + 1))))) else (none)) else (none)) else (some true)
def impl_isPrintable.f (k : Nat) (a0 : ByteArray) : Option (Bool) := impl_isPrintable.l0 k a0 (a0.size : Int) 0
theorem impl_isPrintable.mono_l : ∀ k, (∀ y0 y1 y2, LeO (impl_isPrintable.l0 k y0 y1 y2) (impl_isPrintable.l0 (k + 1) y0 y1 y2))
 | 0 => fun _ _ _ r h => by simp [impl_isPrintable.l0] at h
 | k + 1 => by
  have ih0 := impl_isPrintable.mono_l k
  ·intro y0 y1 y2
   unfold impl_isPrintable.l0
   repeat' first
   | (with_reducible exact ih0 _ _ _)
   | (with_reducible exact LeO.refl _)
   | (with_reducible exact LeO.none _)
   | (with_reducible refine LeO.ite ?_ ?_)
   | (with_reducible refine LeO.bind ?_ (fun _ => ?_))
   | refine LeO.ite ?_ ?_
   | refine LeO.bind ?_ (fun _ => ?_)
theorem impl_isPrintable.mono : ∀ a0 k, LeO (impl_isPrintable.f k a0) (impl_isPrintable.f (k + 1) a0) := by
 intro a0 k
 have ih0 := impl_isPrintable.mono_l k
 unfold impl_isPrintable.f
 repeat' first
   | (with_reducible exact ih0 _ _ _)
   | (with_reducible exact LeO.refl _)
   | (with_reducible exact LeO.none _)
   | (with_reducible refine LeO.ite ?_ ?_)
   | (with_reducible refine LeO.bind ?_ (fun _ => ?_))
   | refine LeO.ite ?_ ?_
   | refine LeO.bind ?_ (fun _ => ?_)
set_option maxHeartbeats 8000000 in
set_option maxRecDepth 100000 in
theorem impl_isPrintable.calls (k : Nat) (a0 : ByteArray) (r : Bool) (w : World) (h : impl_isPrintable.f k a0 = some r) :
  Calls Try.prog 117 #[.string a0] w fun e w' => e = .returned (.bool r) ∧ Drawn0 w w' := by
 have H : (impl_isPrintable.l0 k a0 (a0.size : Int) 0) = some r := h
 clear h
 have H' := Asd.mk H
 clear H
 go_enter Try.func117, Try.ntmps117
 go_wp2
 go_loopg [6] k (fun kq v6 w' => ∃ (x6_1 : Int), v6 = .int .i64 x6_1 ∧ Asd (impl_isPrintable.l0 kq a0 (a0.size : Int) x6_1 = some r) ∧ Asd (kq ≤ k) ∧ Drawn0 w w')
 case atStart => exact ⟨(0), (by first | rfl | (simp; done) | (simp [*]; done)), H', ⟨Nat.le_refl _⟩, by repeat (first | exact Drawn0.refl _ | apply Drawn0.step)⟩
 case round =>
  clear H'
  obtain ⟨x6_1, rfl, HA, HK1, ⟨m1, rfl⟩⟩ := hrel
  cases gk with
  | zero => exact absurd HA.out (by simp [impl_isPrintable.l0])
  | succ k1 =>
   have H := HA.out
   clear HA
   simp only [impl_isPrintable.l0] at H
   by_cases c2 : x6_1 < (a0.size : Int)
   ·rw [if_pos c2] at H
    have c2b0 : decide (x6_1 < (a0.size : Int)) = true := decide_eq_true c2
    clear c2
    by_cases c3 : 0 ≤ x6_1; rotate_left; (rw [if_neg c3] at H; exact absurd H (by simp))
    rw [if_pos c3] at H
    have c3b0 : decide (0 ≤ x6_1) = true := decide_eq_true c3
    clear c3
    by_cases c4 : x6_1 < (a0.size : Int); rotate_left; (rw [if_neg c4] at H; exact absurd H (by simp))
    rw [if_pos c4] at H
    have c4b0 : decide (x6_1 < (a0.size : Int)) = true := decide_eq_true c4
    clear c4
    by_cases c6 : (bt a0 x6_1) < 32
    ·rw [if_pos c6] at H
     have c6b0 : decide ((bt a0 x6_1) < 32) = true := decide_eq_true c6
     clear c6
     obtain rfl := Option.some.inj H
     have p5 : 0 ≤ (x6_1 : Int) := odt
     have q5 : x6_1 < (a0.size : Int) := odt
     have hx5 := bt_at a0 x6_1
     replace p5 := eq_true p5
     replace q5 := eq_true q5
     go_wp2
     go_ret
     exact ⟨by first | rfl | (simp; done) | (simp [*]; done), by repeat (first | exact Drawn0.refl _ | apply Drawn0.step)⟩
    ·rw [if_neg c6] at H
     have c6b0 : decide ((bt a0 x6_1) < 32) = false := decide_eq_false c6
     clear c6
     by_cases c8 : (bt a0 x6_1) > 126
     ·rw [if_pos c8] at H
      have c8b0 : decide (126 < (bt a0 x6_1)) = true := decide_eq_true c8
      clear c8
      obtain rfl := Option.some.inj H
      have p5 : 0 ≤ (x6_1 : Int) := odt
      have q5 : x6_1 < (a0.size : Int) := odt
      have hx5 := bt_at a0 x6_1
      replace p5 := eq_true p5
      replace q5 := eq_true q5
      have p7 : 0 ≤ (x6_1 : Int) := odt
      have q7 : x6_1 < (a0.size : Int) := odt
      have hx7 := bt_at a0 x6_1
      replace p7 := eq_true p7
      replace q7 := eq_true q7
      go_wp2
      go_ret
      exact ⟨by first | rfl | (simp; done) | (simp [*]; done), by repeat (first | exact Drawn0.refl _ | apply Drawn0.step)⟩
     ·rw [if_neg c8] at H
      have c8b0 : decide (126 < (bt a0 x6_1)) = false := decide_eq_false c8
      clear c8
      have H' := Asd.mk H
      clear H
      have p5 : 0 ≤ (x6_1 : Int) := odt
      have q5 : x6_1 < (a0.size : Int) := odt
      have hx5 := bt_at a0 x6_1
      replace p5 := eq_true p5
      replace q5 := eq_true q5
      have p7 : 0 ≤ (x6_1 : Int) := odt
      have q7 : x6_1 < (a0.size : Int) := odt
      have hx7 := bt_at a0 x6_1
      replace p7 := eq_true p7
      replace q7 := eq_true q7
      go_wp2
      go_roundg k1
      case measure => have := HK1.out; omega
      case rel => exact ⟨(wrap64 (x6_1 + 1)), (by first | rfl | (simp; done) | (simp [*]; done)), H', ⟨by have := HK1.out; omega⟩, by repeat (first | exact Drawn0.refl _ | apply Drawn0.step)⟩
   ·rw [if_neg c2] at H
    have c2b0 : decide (x6_1 < (a0.size : Int)) = false := decide_eq_false c2
    clear c2
    obtain rfl := Option.some.inj H
    go_wp2
    go_ret
    exact ⟨by first | rfl | (simp; done) | (simp [*]; done), by repeat (first | exact Drawn0.refl _ | apply Drawn0.step)⟩

/-! ### impl_deedText: function 74 -/
def impl_deedText.j0 : Nat → Bool → Int → ByteArray → Option (ByteArray)
 | 0, _, _, _ => none
 | k + 1, x7, x102000, x102001 => if x7 = true then (some (⟨#[]⟩ : ByteArray)) else (if x102000 = 0 then (if 6 + x102001.size ≤ 9223372036854775807 then (some ((⟨#[102, 105, 114, 115, 116, 32]⟩ : ByteArray) ++ x102001)) else (none)) else (if x102000 = 1 then (if 4 + x102001.size ≤ 9223372036854775807 then (some ((⟨#[97, 108, 108, 32]⟩ : ByteArray) ++ x102001)) else (none)) else (some (⟨#[]⟩ : ByteArray))))
def impl_deedText.f (k : Nat) (a0_0 : Int) (a0_1 : ByteArray) : Option (ByteArray) := if (a0_0 == 2 && (a0_1.toList == ([] : List UInt8))) = true then (some (⟨#[98, 97, 99, 107]⟩ : ByteArray)) else (if a0_1.toList = ([] : List UInt8) then (impl_deedText.j0 k true a0_0 a0_1) else ((impl_isPrintable.f k a0_1).bind fun t102 => (impl_deedText.j0 k (!t102) a0_0 a0_1)))
theorem impl_deedText.mono_l : ∀ k, (∀ y0 y1 y2, LeO (impl_deedText.j0 k y0 y1 y2) (impl_deedText.j0 (k + 1) y0 y1 y2))
 | 0 => fun _ _ _ r h => by simp [impl_deedText.j0] at h
 | k + 1 => by
  have ih0 := impl_deedText.mono_l k
  ·intro y0 y1 y2
   unfold impl_deedText.j0
   repeat' first
   | (with_reducible exact ih0 _ _ _)
   | (with_reducible exact impl_isPrintable.mono _ _)
   | (with_reducible exact LeO.refl _)
   | (with_reducible exact LeO.none _)
   | (with_reducible refine LeO.ite ?_ ?_)
   | (with_reducible refine LeO.bind ?_ (fun _ => ?_))
   | refine LeO.ite ?_ ?_
   | refine LeO.bind ?_ (fun _ => ?_)
theorem impl_deedText.mono : ∀ a0 a1 k, LeO (impl_deedText.f k a0 a1) (impl_deedText.f (k + 1) a0 a1) := by
 intro a0 a1 k
 have ih0 := impl_deedText.mono_l k
 unfold impl_deedText.f
 repeat' first
   | (with_reducible exact ih0 _ _ _)
   | (with_reducible exact impl_isPrintable.mono _ _)
   | (with_reducible exact LeO.refl _)
   | (with_reducible exact LeO.none _)
   | (with_reducible refine LeO.ite ?_ ?_)
   | (with_reducible refine LeO.bind ?_ (fun _ => ?_))
   | refine LeO.ite ?_ ?_
   | refine LeO.bind ?_ (fun _ => ?_)
set_option maxHeartbeats 8000000 in
set_option maxRecDepth 100000 in
theorem impl_deedText.calls (k : Nat) (a0_0 : Int) (a0_1 : ByteArray) (r : ByteArray) (w : World) (h : impl_deedText.f k a0_0 a0_1 = some r) :
  Calls Try.prog 74 #[.agg #[.int .i64 a0_0, .string a0_1]] w fun e w' => e = .returned (.string r) ∧ Below w.heap.size w w' := by
 have hu26 := Try.underlying26
 have HB := Asd.mk (Below.refl w.heap.size w)
 have H : (if (a0_0 == 2 && (a0_1.toList == ([] : List UInt8))) = true then (some (⟨#[98, 97, 99, 107]⟩ : ByteArray)) else (if a0_1.toList = ([] : List UInt8) then (impl_deedText.j0 k true a0_0 a0_1) else ((impl_isPrintable.f k a0_1).bind fun t102 => (impl_deedText.j0 k (!t102) a0_0 a0_1)))) = some r := h
 clear h
 by_cases c2 : (a0_0 == 2 && (a0_1.toList == ([] : List UInt8))) = true
 ·rw [if_pos c2] at H
  have c2b0 : (a0_0 == 2 && (a0_1.toList == ([] : List UInt8))) = true := c2
  try have c2b7 : (a0_0 == 2 && a0_1.toList.isEmpty) = true := by have h_ := c2b0; (repeat rw [Hof.isEmpty_beq]); exact h_
  (try (have c2b1 : decide (a0_0 = 2 && (a0_1.toList == ([] : List UInt8))) = true := by simpa using c2))
  (try (have c2b2 : (a0_0 == 2 && (a0_1.toList == ([] : List UInt8))) = true := by simpa using c2))
  clear c2
  obtain rfl := Option.some.inj H
  go_enter Try.func74, Try.ntmps74
  go_wp2_with (first | ((with_reducible refine gate_dst (N := 1) rfl ?_); refine bxE ?hg (N := 1) ?hd (cs := #[.int .i64 a0_0, .string a0_1]) (t := 26) ?hr ?_; (case hd => rfl); (case hg => rfl); (case hr => first | (go_simp; done) | (go_simp; rfl)); intro gb101 hg w3 hbox hb; have n0_ := Asd.mk (bwP (by repeat (with_reducible first | exact HB.out | apply bwX)) hb); have n1_ := Asd.mk (hbox); have n2_ := Asd.mk ((by rw [hg]; exact (below_size (by repeat (with_reducible first | exact HB.out | apply bwX))) : w.heap.size ≤ gb101)); have n3_ := Asd.mk ((by rw [hg]; exact (below_size (by repeat (with_reducible first | exact HB.out | apply bwX))) : w.heap.size ≤ gb101)); clear HB; have HB := n0_; have BK101 := n1_; have GW101 := n2_; have GE101 := n3_; clear n0_ n1_ n2_ n3_; clear hb hbox hg; have hcz4_0 : w3.cell? ⟨gb101, 0, none⟩ = some (.int .i64 a0_0) := (bkC BK101.out 0).trans rfl; have hcz4_1 : w3.cell? ⟨gb101, 1, none⟩ = some (.string a0_1) := (bkC BK101.out 1).trans rfl; have hfz4_0 := bkF BK101.out 0; have hfz4_1 := bkF BK101.out 1))
  go_ret
  exact ⟨by first | rfl | (simp [*, errW_none, errW_some] <;> rfl), by repeat (with_reducible first | exact HB.out | apply bwX | refine bwS ?_ aX)⟩
 ·rw [if_neg c2] at H
  have c2b0 : (a0_0 == 2 && (a0_1.toList == ([] : List UInt8))) = false := by simpa using c2
  try have c2b7 : (a0_0 == 2 && a0_1.toList.isEmpty) = false := by have h_ := c2b0; (repeat rw [Hof.isEmpty_beq]); exact h_
  (try (have c2b1 : decide (a0_0 = 2 && (a0_1.toList == ([] : List UInt8))) = false := by simpa using c2))
  (try (have c2b2 : (a0_0 == 2 && (a0_1.toList == ([] : List UInt8))) = false := by simpa using c2))
  (try (have c2b3 : ¬ (a0_0 = 2 && (a0_1.toList == ([] : List UInt8))) := by simpa using c2))
  clear c2
  have HC5 := Asd.mk H
  clear H
  go_enter Try.func74, Try.ntmps74
  go_upto_region 3 with (first | ((with_reducible refine gate_dst (N := 1) rfl ?_); refine bxE ?hg (N := 1) ?hd (cs := #[.int .i64 a0_0, .string a0_1]) (t := 26) ?hr ?_; (case hd => rfl); (case hg => rfl); (case hr => first | (go_simp; done) | (go_simp; rfl)); intro gb101 hg w6 hbox hb; have n0_ := Asd.mk (bwP (by repeat (with_reducible first | exact HB.out | apply bwX)) hb); have n1_ := Asd.mk (hbox); have n2_ := Asd.mk ((by rw [hg]; exact (below_size (by repeat (with_reducible first | exact HB.out | apply bwX))) : w.heap.size ≤ gb101)); have n3_ := Asd.mk ((by rw [hg]; exact (below_size (by repeat (with_reducible first | exact HB.out | apply bwX))) : w.heap.size ≤ gb101)); clear HB; have HB := n0_; have BK101 := n1_; have GW101 := n2_; have GE101 := n3_; clear n0_ n1_ n2_ n3_; clear hb hbox hg; have hcz7_0 : w6.cell? ⟨gb101, 0, none⟩ = some (.int .i64 a0_0) := (bkC BK101.out 0).trans rfl; have hcz7_1 : w6.cell? ⟨gb101, 1, none⟩ = some (.string a0_1) := (bkC BK101.out 1).trans rfl; have hfz7_0 := bkF BK101.out 0; have hfz7_1 := bkF BK101.out 1))
  (try simp only [Act.put, qA, qB, qC])
  go_cut [7] (fun v7 wc => ∃ (kq : Nat) (x7_4 : Bool), v7 = .bool x7_4 ∧ Asd (impl_deedText.j0 kq x7_4 a0_0 a0_1 = some r) ∧ Asd (kq ≤ k) ∧ Asd (wc.heap[gb101]? = some (.cells #[.int .i64 a0_0, .string a0_1] 26 (0, 0))) ∧ Asd (Below w.heap.size w wc))
  case first =>
   have H := HC5.out
   clear HC5
   by_cases c8 : a0_1.toList = ([] : List UInt8)
   ·rw [if_pos c8] at H
    have c8b0 : (a0_1.toList == ([] : List UInt8)) = true := beq_iff_eq.mpr c8
    have c8b1 : (a0_1.toList != ([] : List UInt8)) = false := bne_eq_false_iff_eq.mpr c8
    clear c8
    (first | rw [c8b0] | (simp only [i64_w, i32_w]; rw [c8b0]) | skip)
    have H' := Asd.mk H
    clear H
    have hcz9_0 : w6.cell? ⟨gb101, 0, none⟩ = some (.int .i64 a0_0) := (bkC BK101.out 0).trans rfl
    have hcz9_1 : w6.cell? ⟨gb101, 1, none⟩ = some (.string a0_1) := (bkC BK101.out 1).trans rfl
    have hfz9_0 := bkF BK101.out 0
    have hfz9_1 := bkF BK101.out 1
    go_wp2
    go_meet
    case rel => exact ⟨_, (true), (by first | rfl | (simp; done) | (simp [*]; done)), H', ⟨by first | omega | exact Nat.le_refl _⟩, ⟨by (repeat apply bkS); exact BK101.out⟩, ⟨by repeat (with_reducible first | exact HB.out | apply bwX | refine bwS ?_ aX)⟩⟩
   ·rw [if_neg c8] at H
    have c8b0 : (a0_1.toList == ([] : List UInt8)) = false := beq_eq_false_iff_ne.mpr c8
    have c8b1 : (a0_1.toList != ([] : List UInt8)) = true := bne_iff_ne.mpr c8
    (first | rw [c8b0] | (simp only [i64_w, i32_w]; rw [c8b0]) | skip)
    replace H := Option.bind_eq_some_iff.mp H
    obtain ⟨t102, A100, H⟩ := H
    try dsimp only at H
    have A10 := Asd.mk A100
    clear A100
    have H' := Asd.mk H
    clear H
    have hcz11_0 : w6.cell? ⟨gb101, 0, none⟩ = some (.int .i64 a0_0) := (bkC BK101.out 0).trans rfl
    have hcz11_1 : w6.cell? ⟨gb101, 1, none⟩ = some (.string a0_1) := (bkC BK101.out 1).trans rfl
    have hfz11_0 := bkF BK101.out 0
    have hfz11_1 := bkF BK101.out 1
    go_wp2_with (first | (go_at_call 117; (with_reducible refine (impl_isPrintable.calls k a0_1 t102 _ A10.out).mono ?_); rintro e w' ⟨rfl, ⟨nd, rfl⟩⟩))
    go_meet
    case rel => exact ⟨_, (!t102), (by first | rfl | (simp; done) | (simp [*]; done)), H', ⟨by first | omega | exact Nat.le_refl _⟩, ⟨by (repeat apply bkS); exact BK101.out⟩, ⟨by repeat (with_reducible first | exact HB.out | apply bwX | refine bwS ?_ aX)⟩⟩
  case rest =>
   clear HC5
   obtain ⟨kq, x7_4, rfl, HA, HJ4, BK101, HB⟩ := hcut
   cases kq with
   | zero => exact absurd HA.out (by simp [impl_deedText.j0])
   | succ kj4 =>
    have H := HA.out
    clear HA
    simp only [impl_deedText.j0] at H
    by_cases c12 : x7_4 = true
    ·subst c12
     rw [if_pos rfl] at H
     obtain rfl := Option.some.inj H
     go_wp2
     go_ret
     exact ⟨by first | rfl | (simp [*, errW_none, errW_some] <;> rfl), by repeat (with_reducible first | exact HB.out | apply bwX | refine bwS ?_ aX)⟩
    ·replace c12 := Bool.eq_false_iff.mpr c12
     subst c12
     rw [if_neg (show ¬ (false = true) by decide)] at H
     by_cases c13 : a0_0 = 0
     ·rw [if_pos c13] at H
      have c13b0 : (a0_0 == 0) = true := beq_iff_eq.mpr c13
      have c13b1 : (a0_0 != 0) = false := bne_eq_false_iff_eq.mpr c13
      clear c13
      by_cases c14 : 6 + a0_1.size ≤ 9223372036854775807; rotate_left; (rw [if_neg c14] at H; exact absurd H (by simp))
      rw [if_pos c14] at H
      have c14b0 := eq_true c14
      have c14b1 : decide (6 + a0_1.size ≤ 9223372036854775807) = true := decide_eq_true c14
      try have c14b2 : (9223372036854775807 < 6 + a0_1.size) = False := eq_false (Nat.not_lt.2 c14)
      obtain rfl := Option.some.inj H
      have hcz15_0 : wc.cell? ⟨gb101, 0, none⟩ = some (.int .i64 a0_0) := (bkC BK101.out 0).trans rfl
      have hcz15_1 : wc.cell? ⟨gb101, 1, none⟩ = some (.string a0_1) := (bkC BK101.out 1).trans rfl
      have hfz15_0 := bkF BK101.out 0
      have hfz15_1 := bkF BK101.out 1
      go_wp2
      go_ret
      exact ⟨by first | rfl | (simp [*, errW_none, errW_some] <;> rfl), by repeat (with_reducible first | exact HB.out | apply bwX | refine bwS ?_ aX)⟩
     ·rw [if_neg c13] at H
      have c13b0 : (a0_0 == 0) = false := beq_eq_false_iff_ne.mpr c13
      have c13b1 : (a0_0 != 0) = true := bne_iff_ne.mpr c13
      by_cases c16 : a0_0 = 1
      ·rw [if_pos c16] at H
       have c16b0 : (a0_0 == 1) = true := beq_iff_eq.mpr c16
       have c16b1 : (a0_0 != 1) = false := bne_eq_false_iff_eq.mpr c16
       clear c16
       by_cases c17 : 4 + a0_1.size ≤ 9223372036854775807; rotate_left; (rw [if_neg c17] at H; exact absurd H (by simp))
       rw [if_pos c17] at H
       have c17b0 := eq_true c17
       have c17b1 : decide (4 + a0_1.size ≤ 9223372036854775807) = true := decide_eq_true c17
       try have c17b2 : (9223372036854775807 < 4 + a0_1.size) = False := eq_false (Nat.not_lt.2 c17)
       obtain rfl := Option.some.inj H
       have hcz18_0 : wc.cell? ⟨gb101, 0, none⟩ = some (.int .i64 a0_0) := (bkC BK101.out 0).trans rfl
       have hcz18_1 : wc.cell? ⟨gb101, 1, none⟩ = some (.string a0_1) := (bkC BK101.out 1).trans rfl
       have hfz18_0 := bkF BK101.out 0
       have hfz18_1 := bkF BK101.out 1
       go_wp2
       go_ret
       exact ⟨by first | rfl | (simp [*, errW_none, errW_some] <;> rfl), by repeat (with_reducible first | exact HB.out | apply bwX | refine bwS ?_ aX)⟩
      ·rw [if_neg c16] at H
       have c16b0 : (a0_0 == 1) = false := beq_eq_false_iff_ne.mpr c16
       have c16b1 : (a0_0 != 1) = true := bne_iff_ne.mpr c16
       obtain rfl := Option.some.inj H
       have hcz19_0 : wc.cell? ⟨gb101, 0, none⟩ = some (.int .i64 a0_0) := (bkC BK101.out 0).trans rfl
       have hcz19_1 : wc.cell? ⟨gb101, 1, none⟩ = some (.string a0_1) := (bkC BK101.out 1).trans rfl
       have hfz19_0 := bkF BK101.out 0
       have hfz19_1 := bkF BK101.out 1
       go_wp2
       go_ret
       exact ⟨by first | rfl | (simp [*, errW_none, errW_some] <;> rfl), by repeat (with_reducible first | exact HB.out | apply bwX | refine bwS ?_ aX)⟩

/-! ### impl_DeedText: function 22 -/
def impl_DeedText.f (k : Nat) (a0_0 : Int) (a0_1 : ByteArray) : Option (ByteArray) := (impl_deedText.f k a0_0 a0_1).bind fun t104 => (some t104)
theorem impl_DeedText.mono : ∀ a0 a1 k, LeO (impl_DeedText.f k a0 a1) (impl_DeedText.f (k + 1) a0 a1) := by
 intro a0 a1 k
 unfold impl_DeedText.f
 repeat' first
   | (with_reducible exact impl_deedText.mono _ _ _)
   | (with_reducible exact LeO.refl _)
   | (with_reducible exact LeO.none _)
   | (with_reducible refine LeO.ite ?_ ?_)
   | (with_reducible refine LeO.bind ?_ (fun _ => ?_))
   | refine LeO.ite ?_ ?_
   | refine LeO.bind ?_ (fun _ => ?_)
set_option maxHeartbeats 8000000 in
set_option maxRecDepth 100000 in
theorem impl_DeedText.calls (k : Nat) (a0_0 : Int) (a0_1 : ByteArray) (r : ByteArray) (w : World) (h : impl_DeedText.f k a0_0 a0_1 = some r) :
  Calls Try.prog 22 #[.agg #[.int .i64 a0_0, .string a0_1]] w fun e w' => e = .returned (.string r) ∧ Below w.heap.size w w' := by
 have hu26 := Try.underlying26
 have HB := Asd.mk (Below.refl w.heap.size w)
 have H : ((impl_deedText.f k a0_0 a0_1).bind fun t104 => (some t104)) = some r := h
 clear h
 replace H := Option.bind_eq_some_iff.mp H
 obtain ⟨t104, A20, H⟩ := H
 try dsimp only at H
 have A2 := Asd.mk A20
 clear A20
 obtain rfl := Option.some.inj H
 go_enter Try.func22, Try.ntmps22
 go_wp2_with (first | ((with_reducible refine gate_dst (N := 1) rfl ?_); refine bxE ?hg (N := 1) ?hd (cs := #[.int .i64 a0_0, .string a0_1]) (t := 26) ?hr ?_; (case hd => rfl); (case hg => rfl); (case hr => first | (go_simp; done) | (go_simp; rfl)); intro gb103 hg w3 hbox hb; have n0_ := Asd.mk (bwP (by repeat (with_reducible first | exact HB.out | apply bwX)) hb); have n1_ := Asd.mk (hbox); have n2_ := Asd.mk ((by rw [hg]; exact (below_size (by repeat (with_reducible first | exact HB.out | apply bwX))) : w.heap.size ≤ gb103)); have n3_ := Asd.mk ((by rw [hg]; exact (below_size (by repeat (with_reducible first | exact HB.out | apply bwX))) : w.heap.size ≤ gb103)); clear HB; have HB := n0_; have BK103 := n1_; have GW103 := n2_; have GE103 := n3_; clear n0_ n1_ n2_ n3_; clear hb hbox hg; have hcz4_0 : w3.cell? ⟨gb103, 0, none⟩ = some (.int .i64 a0_0) := (bkC BK103.out 0).trans rfl; have hcz4_1 : w3.cell? ⟨gb103, 1, none⟩ = some (.string a0_1) := (bkC BK103.out 1).trans rfl; have hfz4_0 := bkF BK103.out 0; have hfz4_1 := bkF BK103.out 1) | ((with_reducible refine gate_callee (f := 74) rfl ?_); refine gsM (some 4) rfl rfl Try.func74 (by kernel_rfl) rfl #[.agg #[.int .i64 a0_0, .string a0_1]] rfl ?_; (with_reducible refine (impl_deedText.calls k a0_0 a0_1 t104 _ A2.out).mono ?_); rintro e w5 ⟨rfl, hb⟩; refine ⟨_, rfl, ?_⟩; have n0_ := Asd.mk (bkB (g := gb103) (o := .cells #[.int .i64 a0_0, .string a0_1] 26 (0, 0)) (by (repeat apply bkS); exact BK103.out) hb); have n1_ := Asd.mk (bwP (by repeat (with_reducible first | exact HB.out | apply bwX | refine bwS ?_ aX)) hb); clear BK103; clear HB; have BK103 := n0_; have HB := n1_; clear n0_ n1_; (try clear hb); (try clear hb2); (try clear hk); (try clear hi)))
 go_ret
 exact ⟨by first | rfl | (simp [*, errW_none, errW_some] <;> rfl), by repeat (with_reducible first | exact HB.out | apply bwX | refine bwS ?_ aX)⟩

/-! ### spec_l1In: function 72 -/
def spec_l1In.f (a0 : Int) (a1 : Int) (a2 : Int) : Option (Bool) := if a0 ≥ a1 then (some (decide (a0 ≤ a2))) else (some false)
set_option maxHeartbeats 8000000 in
set_option maxRecDepth 100000 in
theorem spec_l1In.calls (a0 : Int) (a1 : Int) (a2 : Int) (r : Bool) (w : World) (h : spec_l1In.f a0 a1 a2 = some r) :
  Calls Try.prog 72 #[.int .i64 a0, .int .i64 a1, .int .i64 a2] w fun e w' => e = .returned (.bool r) ∧ Drawn0 w w' := by
 have H : (if a0 ≥ a1 then (some (decide (a0 ≤ a2))) else (some false)) = some r := h
 clear h
 by_cases c4 : a0 ≥ a1
 ·rw [if_pos c4] at H
  have c4b0 : decide (a1 ≤ a0) = true := decide_eq_true c4
  clear c4
  obtain rfl := Option.some.inj H
  go_enter Try.func72, Try.ntmps72
  go_wp2
  go_ret
  exact ⟨by first | rfl | (simp; done) | (simp [*]; done), by repeat (first | exact Drawn0.refl _ | apply Drawn0.step)⟩
 ·rw [if_neg c4] at H
  have c4b0 : decide (a1 ≤ a0) = false := decide_eq_false c4
  clear c4
  obtain rfl := Option.some.inj H
  go_enter Try.func72, Try.ntmps72
  go_wp2
  go_ret
  exact ⟨by first | rfl | (simp; done) | (simp [*]; done), by repeat (first | exact Drawn0.refl _ | apply Drawn0.step)⟩

/-! ### spec_l10Plain: function 73 -/
def spec_l10Plain.l0 : Nat → ByteArray → Int → Option (Bool)
 | 0, _, _ => none
 | k + 1, x0, x3 => if x3 < (x0.size : Int) then (if 0 ≤ x3 then (if (bt x0 x3) < 32 then (some false) else (if (bt x0 x3) > 126 then (some false) else (spec_l10Plain.l0 k x0 (wrap64 (x3 + 1))))) else (none)) else (some (decide ((x0.size : Int) > 0)))
def spec_l10Plain.f (k : Nat) (a0 : ByteArray) : Option (Bool) := spec_l10Plain.l0 k a0 0
theorem spec_l10Plain.mono_l : ∀ k, (∀ y0 y1, LeO (spec_l10Plain.l0 k y0 y1) (spec_l10Plain.l0 (k + 1) y0 y1))
 | 0 => fun _ _ r h => by simp [spec_l10Plain.l0] at h
 | k + 1 => by
  have ih0 := spec_l10Plain.mono_l k
  ·intro y0 y1
   unfold spec_l10Plain.l0
   repeat' first
   | (with_reducible exact ih0 _ _)
   | (with_reducible exact LeO.refl _)
   | (with_reducible exact LeO.none _)
   | (with_reducible refine LeO.ite ?_ ?_)
   | (with_reducible refine LeO.bind ?_ (fun _ => ?_))
   | refine LeO.ite ?_ ?_
   | refine LeO.bind ?_ (fun _ => ?_)
theorem spec_l10Plain.mono : ∀ a0 k, LeO (spec_l10Plain.f k a0) (spec_l10Plain.f (k + 1) a0) := by
 intro a0 k
 have ih0 := spec_l10Plain.mono_l k
 unfold spec_l10Plain.f
 repeat' first
   | (with_reducible exact ih0 _ _)
   | (with_reducible exact LeO.refl _)
   | (with_reducible exact LeO.none _)
   | (with_reducible refine LeO.ite ?_ ?_)
   | (with_reducible refine LeO.bind ?_ (fun _ => ?_))
   | refine LeO.ite ?_ ?_
   | refine LeO.bind ?_ (fun _ => ?_)
set_option maxHeartbeats 8000000 in
set_option maxRecDepth 100000 in
theorem spec_l10Plain.calls (k : Nat) (a0 : ByteArray) (r : Bool) (w : World) (h : spec_l10Plain.f k a0 = some r) :
  Calls Try.prog 73 #[.string a0] w fun e w' => e = .returned (.bool r) ∧ Drawn0 w w' := by
 have H : (spec_l10Plain.l0 k a0 0) = some r := h
 clear h
 have H' := Asd.mk H
 clear H
 go_enter Try.func73, Try.ntmps73
 go_wp2
 go_loopg [3] k (fun kq v3 w' => ∃ (x3_1 : Int), v3 = .int .i64 x3_1 ∧ Asd (spec_l10Plain.l0 kq a0 x3_1 = some r) ∧ Asd (kq ≤ k) ∧ Drawn0 w w')
 case atStart => exact ⟨(0), (by first | rfl | (simp; done) | (simp [*]; done)), H', ⟨Nat.le_refl _⟩, by repeat (first | exact Drawn0.refl _ | apply Drawn0.step)⟩
 case round =>
  clear H'
  obtain ⟨x3_1, rfl, HA, HK1, ⟨m1, rfl⟩⟩ := hrel
  cases gk with
  | zero => exact absurd HA.out (by simp [spec_l10Plain.l0])
  | succ k1 =>
   have H := HA.out
   clear HA
   simp only [spec_l10Plain.l0] at H
   by_cases c2 : x3_1 < (a0.size : Int)
   ·rw [if_pos c2] at H
    have c2b0 : decide (x3_1 < (a0.size : Int)) = true := decide_eq_true c2
    clear c2
    by_cases c3 : 0 ≤ x3_1; rotate_left; (rw [if_neg c3] at H; exact absurd H (by simp))
    rw [if_pos c3] at H
    have c3b0 : decide (0 ≤ x3_1) = true := decide_eq_true c3
    clear c3
    by_cases c5 : (bt a0 x3_1) < 32
    ·rw [if_pos c5] at H
     have c5b0 : decide ((bt a0 x3_1) < 32) = true := decide_eq_true c5
     clear c5
     obtain rfl := Option.some.inj H
     have p4 : 0 ≤ (x3_1 : Int) := odt
     have q4 : x3_1 < (a0.size : Int) := odt
     have hx4 := bt_at a0 x3_1
     replace p4 := eq_true p4
     replace q4 := eq_true q4
     go_wp2
     go_ret
     exact ⟨by first | rfl | (simp; done) | (simp [*]; done), by repeat (first | exact Drawn0.refl _ | apply Drawn0.step)⟩
    ·rw [if_neg c5] at H
     have c5b0 : decide ((bt a0 x3_1) < 32) = false := decide_eq_false c5
     clear c5
     by_cases c7 : (bt a0 x3_1) > 126
     ·rw [if_pos c7] at H
      have c7b0 : decide (126 < (bt a0 x3_1)) = true := decide_eq_true c7
      clear c7
      obtain rfl := Option.some.inj H
      have p4 : 0 ≤ (x3_1 : Int) := odt
      have q4 : x3_1 < (a0.size : Int) := odt
      have hx4 := bt_at a0 x3_1
      replace p4 := eq_true p4
      replace q4 := eq_true q4
      have p6 : 0 ≤ (x3_1 : Int) := odt
      have q6 : x3_1 < (a0.size : Int) := odt
      have hx6 := bt_at a0 x3_1
      replace p6 := eq_true p6
      replace q6 := eq_true q6
      go_wp2
      go_ret
      exact ⟨by first | rfl | (simp; done) | (simp [*]; done), by repeat (first | exact Drawn0.refl _ | apply Drawn0.step)⟩
     ·rw [if_neg c7] at H
      have c7b0 : decide (126 < (bt a0 x3_1)) = false := decide_eq_false c7
      clear c7
      have H' := Asd.mk H
      clear H
      have p4 : 0 ≤ (x3_1 : Int) := odt
      have q4 : x3_1 < (a0.size : Int) := odt
      have hx4 := bt_at a0 x3_1
      replace p4 := eq_true p4
      replace q4 := eq_true q4
      have p6 : 0 ≤ (x3_1 : Int) := odt
      have q6 : x3_1 < (a0.size : Int) := odt
      have hx6 := bt_at a0 x3_1
      replace p6 := eq_true p6
      replace q6 := eq_true q6
      go_wp2
      go_roundg k1
      case measure => have := HK1.out; omega
      case rel => exact ⟨(wrap64 (x3_1 + 1)), (by first | rfl | (simp; done) | (simp [*]; done)), H', ⟨by have := HK1.out; omega⟩, by repeat (first | exact Drawn0.refl _ | apply Drawn0.step)⟩
   ·rw [if_neg c2] at H
    have c2b0 : decide (x3_1 < (a0.size : Int)) = false := decide_eq_false c2
    clear c2
    obtain rfl := Option.some.inj H
    go_wp2
    go_ret
    exact ⟨by first | rfl | (simp; done) | (simp [*]; done), by repeat (first | exact Drawn0.refl _ | apply Drawn0.step)⟩

/-! ### spec_DeedText: function 20 -/
def spec_DeedText.j0 : Nat → Bool → Int → ByteArray → Option (ByteArray)
 | 0, _, _, _ => none
 | k + 1, x3, x106000, x106001 => if x3 = true then ((some (([(⟨#[102, 105, 114, 115, 116]⟩ : ByteArray), (⟨#[97, 108, 108]⟩ : ByteArray)] : List ByteArray) : List ByteArray)).bind fun y108 => (if 0 ≤ x106000 then (if x106000 < (y108.length : Int) then (if (rdOf ByteArray.empty y108 x106000).size + 1 ≤ 9223372036854775807 then (if ((rdOf ByteArray.empty y108 x106000) ++ (⟨#[32]⟩ : ByteArray)).size + x106001.size ≤ 9223372036854775807 then (some (((rdOf ByteArray.empty y108 x106000) ++ (⟨#[32]⟩ : ByteArray)) ++ x106001)) else (none)) else (none)) else (none)) else (none))) else (if (x106000 == 2 && (x106001.toList == ([] : List UInt8))) = true then (some (⟨#[98, 97, 99, 107]⟩ : ByteArray)) else (some (⟨#[]⟩ : ByteArray)))
def spec_DeedText.f (k : Nat) (a0_0 : Int) (a0_1 : ByteArray) : Option (ByteArray) := (spec_l1In.f a0_0 0 1).bind fun t106 => (if t106 = true then ((spec_l10Plain.f k a0_1).bind fun t107 => (spec_DeedText.j0 k t107 a0_0 a0_1)) else (spec_DeedText.j0 k false a0_0 a0_1))
theorem spec_DeedText.mono_l : ∀ k, (∀ y0 y1 y2, LeO (spec_DeedText.j0 k y0 y1 y2) (spec_DeedText.j0 (k + 1) y0 y1 y2))
 | 0 => fun _ _ _ r h => by simp [spec_DeedText.j0] at h
 | k + 1 => by
  have ih0 := spec_DeedText.mono_l k
  ·intro y0 y1 y2
   unfold spec_DeedText.j0
   repeat' first
   | (with_reducible exact ih0 _ _ _)
   | (with_reducible exact spec_l10Plain.mono _ _)
   | (with_reducible exact LeO.refl _)
   | (with_reducible exact LeO.none _)
   | (with_reducible refine LeO.ite ?_ ?_)
   | (with_reducible refine LeO.bind ?_ (fun _ => ?_))
   | refine LeO.ite ?_ ?_
   | refine LeO.bind ?_ (fun _ => ?_)
theorem spec_DeedText.mono : ∀ a0 a1 k, LeO (spec_DeedText.f k a0 a1) (spec_DeedText.f (k + 1) a0 a1) := by
 intro a0 a1 k
 have ih0 := spec_DeedText.mono_l k
 unfold spec_DeedText.f
 repeat' first
   | (with_reducible exact ih0 _ _ _)
   | (with_reducible exact spec_l10Plain.mono _ _)
   | (with_reducible exact LeO.refl _)
   | (with_reducible exact LeO.none _)
   | (with_reducible refine LeO.ite ?_ ?_)
   | (with_reducible refine LeO.bind ?_ (fun _ => ?_))
   | refine LeO.ite ?_ ?_
   | refine LeO.bind ?_ (fun _ => ?_)
def spec_DeedText.T2 : Bool × List (List Nat × List Nat) := (true, [([], []), ([], []), ([1], [1]), ([0, 2], [0, 2]), ([3], [3]), ([4], [4]), ([], []), ([6], [6]), ([5, 7], [5, 7]), ([8, 0, 1, 2, 3, 4, 5, 6, 7, 8], [8])])
def spec_DeedText.B2 : List Nat := [0, 0, 2, 7, 15, 31, 0, 64, 255, 511]
theorem spec_DeedText.tab2 : rtab .any (opsOf Try.f20 2) = spec_DeedText.T2 := by kernel_rfl
theorem spec_DeedText.bits2 : waitsOk spec_DeedText.T2.2 spec_DeedText.B2 = true := by kernel_rfl
set_option maxHeartbeats 8000000 in
set_option maxRecDepth 100000 in
theorem spec_DeedText.calls (k : Nat) (a0_0 : Int) (a0_1 : ByteArray) (r : ByteArray) (w : World) (h : spec_DeedText.f k a0_0 a0_1 = some r) :
  Calls Try.prog 20 #[.agg #[.int .i64 a0_0, .string a0_1]] w fun e w' => e = .returned (.string r) ∧ Below w.heap.size w w' := by
 have hu26 := Try.underlying26
 have HB := Asd.mk (Below.refl w.heap.size w)
 have H : ((spec_l1In.f a0_0 0 1).bind fun t106 => (if t106 = true then ((spec_l10Plain.f k a0_1).bind fun t107 => (spec_DeedText.j0 k t107 a0_0 a0_1)) else (spec_DeedText.j0 k false a0_0 a0_1))) = some r := h
 clear h
 have HC2 := Asd.mk H
 clear H
 go_enter Try.func20, Try.ntmps20
 go_upto_region 1 with (first | ((with_reducible refine gate_dst (N := 1) rfl ?_); refine bxE ?hg (N := 1) ?hd (cs := #[.int .i64 a0_0, .string a0_1]) (t := 26) ?hr ?_; (case hd => rfl); (case hg => rfl); (case hr => first | (go_simp; done) | (go_simp; rfl)); intro gb105 hg w3 hbox hb; have n0_ := Asd.mk (bwP (by repeat (with_reducible first | exact HB.out | apply bwX)) hb); have n1_ := Asd.mk (hbox); have n2_ := Asd.mk ((by rw [hg]; exact (below_size (by repeat (with_reducible first | exact HB.out | apply bwX))) : w.heap.size ≤ gb105)); have n3_ := Asd.mk ((by rw [hg]; exact (below_size (by repeat (with_reducible first | exact HB.out | apply bwX))) : w.heap.size ≤ gb105)); clear HB; have HB := n0_; have BK105 := n1_; have GW105 := n2_; have GE105 := n3_; clear n0_ n1_ n2_ n3_; clear hb hbox hg))
 (try simp only [Act.put, qA, qB, qC])
 go_cut [3] (fun v3 wc => ∃ (kq : Nat) (x3_1 : Bool), v3 = .bool x3_1 ∧ Asd (spec_DeedText.j0 kq x3_1 a0_0 a0_1 = some r) ∧ Asd (kq ≤ k) ∧ Asd (wc.heap[gb105]? = some (.cells #[.int .i64 a0_0, .string a0_1] 26 (0, 0))) ∧ Asd (Below w.heap.size w wc))
 case first =>
  have H := HC2.out
  clear HC2
  replace H := Option.bind_eq_some_iff.mp H
  obtain ⟨t106, A40, H⟩ := H
  try dsimp only at H
  have A4 := Asd.mk A40
  clear A40
  by_cases c5 : t106 = true
  ·subst c5
   rw [if_pos rfl] at H
   replace H := Option.bind_eq_some_iff.mp H
   obtain ⟨t107, A60, H⟩ := H
   try dsimp only at H
   have A6 := Asd.mk A60
   clear A60
   have H' := Asd.mk H
   clear H
   have hcz7_0 : w3.cell? ⟨gb105, 0, none⟩ = some (.int .i64 a0_0) := (bkC BK105.out 0).trans rfl
   have hcz7_1 : w3.cell? ⟨gb105, 1, none⟩ = some (.string a0_1) := (bkC BK105.out 1).trans rfl
   have hfz7_0 := bkF BK105.out 0
   have hfz7_1 := bkF BK105.out 1
   go_wp2_with (first | ((with_reducible refine gate_callee (f := 72) rfl ?_); refine gsM (some 6) rfl rfl Try.func72 (by kernel_rfl) rfl #[.int .i64 a0_0, .int .i64 0, .int .i64 1] rfl ?_; (with_reducible refine (spec_l1In.calls a0_0 0 1 true _ A4.out).mono ?_); rintro e w' ⟨rfl, ⟨nd, rfl⟩⟩; refine ⟨_, rfl, ?_⟩) | (go_at_call 73; (with_reducible refine (spec_l10Plain.calls k a0_1 t107 _ A6.out).mono ?_); rintro e w' ⟨rfl, ⟨nd, rfl⟩⟩))
   go_meet
   case rel => exact ⟨_, (t107), (by first | rfl | (simp; done) | (simp [*]; done)), H', ⟨by first | omega | exact Nat.le_refl _⟩, ⟨by (repeat apply bkS); exact BK105.out⟩, ⟨by repeat (with_reducible first | exact HB.out | apply bwX | refine bwS ?_ aX)⟩⟩
  ·replace c5 := Bool.eq_false_iff.mpr c5
   subst c5
   rw [if_neg (show ¬ (false = true) by decide)] at H
   have H' := Asd.mk H
   clear H
   have hcz8_0 : w3.cell? ⟨gb105, 0, none⟩ = some (.int .i64 a0_0) := (bkC BK105.out 0).trans rfl
   have hcz8_1 : w3.cell? ⟨gb105, 1, none⟩ = some (.string a0_1) := (bkC BK105.out 1).trans rfl
   have hfz8_0 := bkF BK105.out 0
   have hfz8_1 := bkF BK105.out 1
   go_wp2_with (first | ((with_reducible refine gate_callee (f := 72) rfl ?_); refine gsM (some 6) rfl rfl Try.func72 (by kernel_rfl) rfl #[.int .i64 a0_0, .int .i64 0, .int .i64 1] rfl ?_; (with_reducible refine (spec_l1In.calls a0_0 0 1 false _ A4.out).mono ?_); rintro e w' ⟨rfl, ⟨nd, rfl⟩⟩; refine ⟨_, rfl, ?_⟩))
   go_meet
   case rel => exact ⟨_, (false), (by first | rfl | (simp; done) | (simp [*]; done)), H', ⟨by first | omega | exact Nat.le_refl _⟩, ⟨by (repeat apply bkS); exact BK105.out⟩, ⟨by repeat (with_reducible first | exact HB.out | apply bwX | refine bwS ?_ aX)⟩⟩
 case rest =>
  clear HC2
  obtain ⟨kq, x3_1, rfl, HA, HJ1, BK105, HB⟩ := hcut
  cases kq with
  | zero => exact absurd HA.out (by simp [spec_DeedText.j0])
  | succ kj1 =>
   have H := HA.out
   clear HA
   simp only [spec_DeedText.j0] at H
   by_cases c9 : x3_1 = true
   ·subst c9
    rw [if_pos rfl] at H
    obtain ⟨y108, hy108⟩ : ∃ y_ : List ByteArray, y_ = (([(⟨#[102, 105, 114, 115, 116]⟩ : ByteArray), (⟨#[97, 108, 108]⟩ : ByteArray)] : List ByteArray)) := ⟨_, rfl⟩
    replace H : (if 0 ≤ a0_0 then (if a0_0 < (y108.length : Int) then (if (rdOf ByteArray.empty y108 a0_0).size + 1 ≤ 9223372036854775807 then (if ((rdOf ByteArray.empty y108 a0_0) ++ (⟨#[32]⟩ : ByteArray)).size + a0_1.size ≤ 9223372036854775807 then (some (((rdOf ByteArray.empty y108 a0_0) ++ (⟨#[32]⟩ : ByteArray)) ++ a0_1)) else (none)) else (none)) else (none)) else (none)) = some r := by first | (rw [hy108]; with_reducible exact H) | (have H2_ := (Option.bind_some _ _).symm.trans H; rw [hy108]; with_reducible exact H2_) | (have H2_ := (Option.bind_some _ _).symm.trans H; with_reducible exact H2_) | with_reducible exact H | (rw [hy108]; exact H) | exact H
    have Ny108 := Asd.mk hy108
    clear hy108
    by_cases c10 : 0 ≤ a0_0; rotate_left; (rw [if_neg c10] at H; exact absurd H (by simp))
    rw [if_pos c10] at H
    have c10b0 : decide (0 ≤ a0_0) = true := decide_eq_true c10
    clear c10
    by_cases c11 : a0_0 < (y108.length : Int); rotate_left; (rw [if_neg c11] at H; exact absurd H (by simp))
    rw [if_pos c11] at H
    have c11b0 : decide (a0_0 < (y108.length : Int)) = true := decide_eq_true c11
    clear c11
    by_cases c12 : (rdOf ByteArray.empty y108 a0_0).size + 1 ≤ 9223372036854775807; rotate_left; (rw [if_neg c12] at H; exact absurd H (by simp))
    rw [if_pos c12] at H
    have c12b0 := eq_true c12
    have c12b1 : decide ((rdOf ByteArray.empty y108 a0_0).size + 1 ≤ 9223372036854775807) = true := decide_eq_true c12
    try have c12b2 : (9223372036854775807 < (rdOf ByteArray.empty y108 a0_0).size + 1) = False := eq_false (Nat.not_lt.2 c12)
    by_cases c13 : ((rdOf ByteArray.empty y108 a0_0) ++ (⟨#[32]⟩ : ByteArray)).size + a0_1.size ≤ 9223372036854775807; rotate_left; (rw [if_neg c13] at H; exact absurd H (by simp))
    rw [if_pos c13] at H
    have c13b0 := eq_true c13
    have c13b1 : decide (((rdOf ByteArray.empty y108 a0_0) ++ (⟨#[32]⟩ : ByteArray)).size + a0_1.size ≤ 9223372036854775807) = true := decide_eq_true c13
    try have c13b2 : (9223372036854775807 < ((rdOf ByteArray.empty y108 a0_0) ++ (⟨#[32]⟩ : ByteArray)).size + a0_1.size) = False := eq_false (Nat.not_lt.2 c13)
    try have c13b8 : (9223372036854775807 < (rdOf ByteArray.empty y108 a0_0).size + 1 + a0_1.size) = False := eq_false (by have h_ := c13; (repeat rw [ByteArray.size_append] at h_); exact Nat.not_lt.2 h_)
    obtain rfl := Option.some.inj H
    try go_wp2
    have pi111 : (0 ≤ (a0_0 : Int)) = True := eq_true (odt)
    have qi111 : (a0_0 < (y108.length : Int)) = True := eq_true (odt)
    have n0_ := Asd.mk (bkD BK105.out)
    have n1_ := Asd.mk (bwD HB.out)
    clear BK105
    clear HB
    have BK105 := n0_
    have HB := n1_
    clear n0_ n1_
    refine start_ (n := 10) (S := fun w' => w'.cell? ⟨gb105, 0, none⟩ = some (.int .i64 a0_0) ∧ w'.cell? ⟨gb105, 1, none⟩ = some (.string a0_1)) (ds := []) #[false, false, false, false, false, false, false, false, false, false] (by kernel_rfl) rfl rfl ⟨(bkC BK105.out 0).trans rfl, (bkC BK105.out 1).trans rfl⟩ (fun hHeld => ?_); refine with_tabW spec_DeedText.tab2 spec_DeedText.bits2 (fun HT_ HW_ => ?_)
    generalize wc.drew = w14 at BK105 HB hHeld ⊢
    refine pure_ (i := 1) (N := some 13) (v := ?_) (a' := ?_) #[false, true, false, false, false, false, false, false, false, false] rfl rfl (any_of HT_.out (by kernel_rfl)) (fun _ _ _ h => h) (Or.inl ⟨by rfl, ?_⟩) ?_ ?_
    rotate_left
    ·intro w'
     go_simp
     with_reducible rfl
    rotate_left
    ·simp only [Act.put, qA, qB, qC, i64_w, i32_w]
     rfl
    refine pure_ (i := 6) (N := some 18) (v := ?_) (a' := ?_) #[false, true, false, false, false, false, true, false, false, false] rfl rfl (any_of HT_.out (by kernel_rfl)) (fun _ _ _ h => h) (Or.inl ⟨by rfl, ?_⟩) ?_ ?_
    rotate_left
    ·intro w'
     go_simp
     with_reducible rfl
    rotate_left
    ·simp only [Act.put, qA, qB, qC, i64_w, i32_w]
     rfl
    refine take_ (i := 2) (N := some 14) (v := ?_) (a' := ?_) #[false, true, true, false, false, false, true, false, false, false] rfl rfl (take_ofW HT_.out HW_.out (by kernel_rfl)) (fun _ _ _ h => h) (Or.inl ⟨by rfl, ?_⟩) hHeld ?_ ?_
    rotate_left
    ·rintro w' ⟨s0, s1⟩
     go_simp
     with_reducible rfl
    rotate_left
    ·simp only [Act.put, qA, qB, qC, i64_w, i32_w]
     rfl
    refine take_ (i := 7) (N := some 19) (v := ?_) (a' := ?_) #[false, true, true, false, false, false, true, true, false, false] rfl rfl (take_ofW HT_.out HW_.out (by kernel_rfl)) (fun _ _ _ h => h) (Or.inl ⟨by rfl, ?_⟩) hHeld ?_ ?_
    rotate_left
    ·rintro w' ⟨s0, s1⟩
     go_simp
     with_reducible rfl
    rotate_left
    ·simp only [Act.put, qA, qB, qC, i64_w, i32_w]
     rfl
    refine one_ (i := 0) (N := some 12) #[true, true, true, false, false, false, true, true, false, false] rfl rfl (one_of HT_.out (by kernel_rfl)) (by decide) (fun K hK => ?_)
    refine Kd.R_lit_step Kd.string _ 9 ?hg (N := 12) ?hd (xs := ([(⟨#[102, 105, 114, 115, 116]⟩ : ByteArray), (⟨#[97, 108, 108]⟩ : ByteArray)] : List ByteArray)) (inner := [.string (⟨#[102, 105, 114, 115, 116]⟩ : ByteArray), .string (⟨#[97, 108, 108]⟩ : ByteArray)]) (ok := fun _ => True) (okp := fun _ => True) ?hr ?hp (fun _ hk => hk) trivial (Below.refl _ _) (Nat.le_refl _) (by simp) ?_; (case hd => rfl); (case hg => rfl); (case hr => first | (go_simp; done) | (go_simp; rfl)); (case hp => exact (Reps.one (show Kd.M Kd.string _ _ _ (⟨#[102, 105, 114, 115, 116]⟩ : ByteArray) [.string (⟨#[102, 105, 114, 115, 116]⟩ : ByteArray)] from rfl) (Reps.one (show Kd.M Kd.string _ _ _ (⟨#[97, 108, 108]⟩ : ByteArray) [.string (⟨#[97, 108, 108]⟩ : ByteArray)] from rfl) (Reps.none _ _))))
    intro v109 w15 ho16 hb hg_ hnew_
    clear hg_ hnew_
    (first | rw [← Ny108.out] at ho16 | (simp only [Int.reduceToNat] at ho16; rw [← Ny108.out] at ho16))
    have n0_ := Asd.mk (Kd.R_lower ho16 (below_size (by repeat (with_reducible first | exact HB.out | apply bwX | refine bwS ?_ aX))))
    have n1_ := Asd.mk (bkB (g := gb105) (o := .cells #[.int .i64 a0_0, .string a0_1] 26 (0, 0)) (by (repeat apply bkS); exact BK105.out) hb)
    have n2_ := Asd.mk (bwP (by repeat (with_reducible first | exact HB.out | apply bwX | refine bwS ?_ aX)) hb)
    clear BK105
    clear HB
    have HO110 := n0_
    have BK105 := n1_
    have HB := n2_
    clear n0_ n1_ n2_
    clear hb ho16
    obtain ⟨Ao17, co17, eo17⟩ := Kd.R_slice HO110.out
    subst eo17
    obtain ⟨ado17, fo17, _⟩ := Kd.at_string (Kd.R_reads' HO110.out).2.2 0 (by decide) (by rw [Ny108.out]; simp)
    cases fo17
    refine hK.out _ _ ⟨(bkC BK105.out 0).trans rfl, (bkC BK105.out 1).trans rfl⟩ (fun hHeld => ?_)
    clear hK K
    refine norm_ (a' := ?_) ?_ ?_
    rotate_left
    ·show Act.put _ (some 12) _ = _
     simp only [Act.put, qA, qB, qC, i64_w, i32_w]
     rfl
    refine pure_ (i := 3) (N := some 15) (v := ?_) (a' := ?_) #[true, true, true, true, false, false, true, true, false, false] rfl rfl (any_of HT_.out (by kernel_rfl)) (fun _ _ _ h => h) (Or.inl ⟨by rfl, ?_⟩) ?_ ?_
    rotate_left
    ·intro w'
     go_simp
     with_reducible rfl
    rotate_left
    ·simp only [Act.put, qA, qB, qC, i64_w, i32_w]
     rfl
    refine one_ (i := 4) (N := some 16) #[true, true, true, true, true, false, true, true, false, false] rfl rfl (one_of HT_.out (by kernel_rfl)) (by decide) (fun K hK => ?_)
    (have p111 : 0 ≤ (a0_0 : Int) := odt; have q111 : a0_0 < (y108.length : Int) := odt; obtain ⟨ad111, e111, hx111_0⟩ := Kd.at_string (Kd.R_reads' HO110.out).2.2 a0_0 p111 q111; obtain rfl : ado17 = ad111 := (by injection e111))
    refine value_ (w1 := ?_) (v := ?_) (by rfl) rfl ?_ ?_
    rotate_left 2
    ·go_simp
     constructor
     ·rfl
     ·rfl
    clear hx111_0
    refine hK.out _ _ ⟨(bkC BK105.out 0).trans rfl, (bkC BK105.out 1).trans rfl⟩ (fun hHeld => ?_)
    clear hK K
    refine norm_ (a' := ?_) ?_ ?_
    rotate_left
    ·show Act.put _ (some 16) _ = _
     simp only [Act.put, qA, qB, qC, i64_w, i32_w]
     rfl
    refine pure_ (i := 5) (N := some 17) (v := ?_) (a' := ?_) #[true, true, true, true, true, true, true, true, false, false] rfl rfl (any_of HT_.out (by kernel_rfl)) (fun _ _ _ h => h) (Or.inl ⟨by rfl, ?_⟩) ?_ ?_
    rotate_left
    ·intro w'
     go_simp
     with_reducible rfl
    rotate_left
    ·simp only [Act.put, qA, qB, qC, i64_w, i32_w]
     rfl
    refine pure_ (i := 8) (N := some 20) (v := ?_) (a' := ?_) #[true, true, true, true, true, true, true, true, true, false] rfl rfl (any_of HT_.out (by kernel_rfl)) (fun _ _ _ h => h) (Or.inl ⟨by rfl, ?_⟩) ?_ ?_
    rotate_left
    ·intro w'
     go_simp
     with_reducible rfl
    rotate_left
    ·simp only [Act.put, qA, qB, qC, i64_w, i32_w]
     rfl
    refine pure_ (i := 9) (N := some 2) (v := ?_) (a' := ?_) #[true, true, true, true, true, true, true, true, true, true] rfl rfl (any_of HT_.out (by kernel_rfl)) (fun _ _ _ h => h) (Or.inl ⟨by rfl, ?_⟩) ?_ ?_
    rotate_left
    ·intro w'
     go_simp
     with_reducible rfl
    rotate_left
    ·simp only [Act.put, qA, qB, qC, i64_w, i32_w]
     rfl
    refine done_ (done_of HT_.out (by kernel_rfl)) ?_
    try go_wp2
    go_ret
    exact ⟨by first | rfl | (simp [*, errW_none, errW_some] <;> rfl), by repeat (with_reducible first | exact HB.out | apply bwX | refine bwS ?_ aX)⟩
   ·replace c9 := Bool.eq_false_iff.mpr c9
    subst c9
    rw [if_neg (show ¬ (false = true) by decide)] at H
    by_cases c18 : (a0_0 == 2 && (a0_1.toList == ([] : List UInt8))) = true
    ·rw [if_pos c18] at H
     have c18b0 : (a0_0 == 2 && (a0_1.toList == ([] : List UInt8))) = true := c18
     try have c18b7 : (a0_0 == 2 && a0_1.toList.isEmpty) = true := by have h_ := c18b0; (repeat rw [Hof.isEmpty_beq]); exact h_
     (try (have c18b1 : decide (a0_0 = 2 && (a0_1.toList == ([] : List UInt8))) = true := by simpa using c18))
     (try (have c18b2 : (a0_0 == 2 && (a0_1.toList == ([] : List UInt8))) = true := by simpa using c18))
     clear c18
     obtain rfl := Option.some.inj H
     have hcz19_0 : wc.cell? ⟨gb105, 0, none⟩ = some (.int .i64 a0_0) := (bkC BK105.out 0).trans rfl
     have hcz19_1 : wc.cell? ⟨gb105, 1, none⟩ = some (.string a0_1) := (bkC BK105.out 1).trans rfl
     have hfz19_0 := bkF BK105.out 0
     have hfz19_1 := bkF BK105.out 1
     go_wp2
     go_ret
     exact ⟨by first | rfl | (simp [*, errW_none, errW_some] <;> rfl), by repeat (with_reducible first | exact HB.out | apply bwX | refine bwS ?_ aX)⟩
    ·rw [if_neg c18] at H
     have c18b0 : (a0_0 == 2 && (a0_1.toList == ([] : List UInt8))) = false := by simpa using c18
     try have c18b7 : (a0_0 == 2 && a0_1.toList.isEmpty) = false := by have h_ := c18b0; (repeat rw [Hof.isEmpty_beq]); exact h_
     (try (have c18b1 : decide (a0_0 = 2 && (a0_1.toList == ([] : List UInt8))) = false := by simpa using c18))
     (try (have c18b2 : (a0_0 == 2 && (a0_1.toList == ([] : List UInt8))) = false := by simpa using c18))
     (try (have c18b3 : ¬ (a0_0 = 2 && (a0_1.toList == ([] : List UInt8))) := by simpa using c18))
     clear c18
     obtain rfl := Option.some.inj H
     have hcz20_0 : wc.cell? ⟨gb105, 0, none⟩ = some (.int .i64 a0_0) := (bkC BK105.out 0).trans rfl
     have hcz20_1 : wc.cell? ⟨gb105, 1, none⟩ = some (.string a0_1) := (bkC BK105.out 1).trans rfl
     have hfz20_0 := bkF BK105.out 0
     have hfz20_1 := bkF BK105.out 1
     go_wp2
     go_ret
     exact ⟨by first | rfl | (simp [*, errW_none, errW_some] <;> rfl), by repeat (with_reducible first | exact HB.out | apply bwX | refine bwS ?_ aX)⟩

/-! ### spec_ReadDeed: function 28 -/
mutual
def spec_ReadDeed.j0 : Nat → ByteArray → List (S26) → Option (Int × ByteArray × Bool)
 | 0, _, _ => none
 | k + 1, x0, x4 => if (x0.size : Int) > 4 then (if 4 ≤ (x0.size : Int) then (if x4.length < 5864062014805 then (spec_ReadDeed.j1 k x0 (x4 ++ [(⟨1, x0.extract 4 x0.size⟩ : S26)])) else (none)) else (none)) else (spec_ReadDeed.j1 k x0 x4)
def spec_ReadDeed.j1 : Nat → ByteArray → List (S26) → Option (Int × ByteArray × Bool)
 | 0, _, _ => none
 | k + 1, x0, x4 => spec_ReadDeed.l0 k x0 x4 0
def spec_ReadDeed.l0 : Nat → ByteArray → List (S26) → Int → Option (Int × ByteArray × Bool)
 | 0, _, _, _ => none
 | k + 1, x0, x4, x5 => if x5 < (x4.length : Int) then (if x0.toList = ([] : List UInt8) then (spec_ReadDeed.l0 k x0 x4 (wrap64 (x5 + 1))) else (if 0 ≤ x5 then ((spec_DeedText.f k ((rd_T26 x4 x5).f0) ((rd_T26 x4 x5).f1)).bind fun t123 => (if t123.toList = x0.toList then (some ((rd_T26 x4 x5).f0, (rd_T26 x4 x5).f1, true)) else (spec_ReadDeed.l0 k x0 x4 (wrap64 (x5 + 1))))) else (none))) else (some (0, (⟨#[]⟩ : ByteArray), false))
end
def spec_ReadDeed.f (k : Nat) (a0 : ByteArray) : Option (Int × ByteArray × Bool) := (some (([(⟨2, (⟨#[]⟩ : ByteArray)⟩ : S26)] : List (S26)) : List (S26))).bind fun y113 => (if (a0.size : Int) > 6 then (if 6 ≤ (a0.size : Int) then (if y113.length < 5864062014805 then (spec_ReadDeed.j0 k a0 (y113 ++ [(⟨0, a0.extract 6 a0.size⟩ : S26)])) else (none)) else (none)) else (spec_ReadDeed.j0 k a0 y113))
theorem spec_ReadDeed.mono_l : ∀ k, (∀ y0 y1, LeO (spec_ReadDeed.j0 k y0 y1) (spec_ReadDeed.j0 (k + 1) y0 y1)) ∧ (∀ y0 y1, LeO (spec_ReadDeed.j1 k y0 y1) (spec_ReadDeed.j1 (k + 1) y0 y1)) ∧ (∀ y0 y1 y2, LeO (spec_ReadDeed.l0 k y0 y1 y2) (spec_ReadDeed.l0 (k + 1) y0 y1 y2))
 | 0 => ⟨fun _ _ r h => by simp [spec_ReadDeed.j0] at h, fun _ _ r h => by simp [spec_ReadDeed.j1] at h, fun _ _ _ r h => by simp [spec_ReadDeed.l0] at h⟩
 | k + 1 => by
  obtain ⟨ih0, ih1, ih2⟩ := spec_ReadDeed.mono_l k
  refine ⟨?_, ?_, ?_⟩
  ·intro y0 y1
   unfold spec_ReadDeed.j0
   repeat' first
   | (with_reducible exact ih0 _ _)
   | (with_reducible exact ih1 _ _)
   | (with_reducible exact ih2 _ _ _)
   | (with_reducible exact spec_DeedText.mono _ _ _)
   | (with_reducible exact LeO.refl _)
   | (with_reducible exact LeO.none _)
   | (with_reducible refine LeO.ite ?_ ?_)
   | (with_reducible refine LeO.bind ?_ (fun _ => ?_))
   | refine LeO.ite ?_ ?_
   | refine LeO.bind ?_ (fun _ => ?_)
  ·intro y0 y1
   unfold spec_ReadDeed.j1
   repeat' first
   | (with_reducible exact ih0 _ _)
   | (with_reducible exact ih1 _ _)
   | (with_reducible exact ih2 _ _ _)
   | (with_reducible exact spec_DeedText.mono _ _ _)
   | (with_reducible exact LeO.refl _)
   | (with_reducible exact LeO.none _)
   | (with_reducible refine LeO.ite ?_ ?_)
   | (with_reducible refine LeO.bind ?_ (fun _ => ?_))
   | refine LeO.ite ?_ ?_
   | refine LeO.bind ?_ (fun _ => ?_)
  ·intro y0 y1 y2
   unfold spec_ReadDeed.l0
   repeat' first
   | (with_reducible exact ih0 _ _)
   | (with_reducible exact ih1 _ _)
   | (with_reducible exact ih2 _ _ _)
   | (with_reducible exact spec_DeedText.mono _ _ _)
   | (with_reducible exact LeO.refl _)
   | (with_reducible exact LeO.none _)
   | (with_reducible refine LeO.ite ?_ ?_)
   | (with_reducible refine LeO.bind ?_ (fun _ => ?_))
   | refine LeO.ite ?_ ?_
   | refine LeO.bind ?_ (fun _ => ?_)
theorem spec_ReadDeed.mono : ∀ a0 k, LeO (spec_ReadDeed.f k a0) (spec_ReadDeed.f (k + 1) a0) := by
 intro a0 k
 obtain ⟨ih0, ih1, ih2⟩ := spec_ReadDeed.mono_l k
 unfold spec_ReadDeed.f
 repeat' first
   | (with_reducible exact ih0 _ _)
   | (with_reducible exact ih1 _ _)
   | (with_reducible exact ih2 _ _ _)
   | (with_reducible exact spec_DeedText.mono _ _ _)
   | (with_reducible exact LeO.refl _)
   | (with_reducible exact LeO.none _)
   | (with_reducible refine LeO.ite ?_ ?_)
   | (with_reducible refine LeO.bind ?_ (fun _ => ?_))
   | refine LeO.ite ?_ ?_
   | refine LeO.bind ?_ (fun _ => ?_)
set_option maxHeartbeats 8000000 in
set_option maxRecDepth 100000 in
theorem spec_ReadDeed.calls (k : Nat) (a0 : ByteArray) (r1 : Int) (r2 : ByteArray) (r3 : Bool) (w : World) (h : spec_ReadDeed.f k a0 = some (r1, r2, r3)) :
  Calls Try.prog 28 #[.string a0] w fun e w' => e = .returned (.tuple #[.agg #[.int .i64 r1, .string r2], .bool r3]) ∧ Below w.heap.size w w' := by
 have hu26 := Try.underlying26
 have HB := Asd.mk (Below.refl w.heap.size w)
 have H : ((some (([(⟨2, (⟨#[]⟩ : ByteArray)⟩ : S26)] : List (S26)) : List (S26))).bind fun y113 => (if (a0.size : Int) > 6 then (if 6 ≤ (a0.size : Int) then (if y113.length < 5864062014805 then (spec_ReadDeed.j0 k a0 (y113 ++ [(⟨0, a0.extract 6 a0.size⟩ : S26)])) else (none)) else (none)) else (spec_ReadDeed.j0 k a0 y113))) = some (r1, r2, r3) := h
 clear h
 obtain ⟨y113, hy113⟩ : ∃ y_ : List (S26), y_ = (([(⟨2, (⟨#[]⟩ : ByteArray)⟩ : S26)] : List (S26))) := ⟨_, rfl⟩
 replace H : (if (a0.size : Int) > 6 then (if 6 ≤ (a0.size : Int) then (if y113.length < 5864062014805 then (spec_ReadDeed.j0 k a0 (y113 ++ [(⟨0, a0.extract 6 a0.size⟩ : S26)])) else (none)) else (none)) else (spec_ReadDeed.j0 k a0 y113)) = some (r1, r2, r3) := by first | (rw [hy113]; with_reducible exact H) | (have H2_ := (Option.bind_some _ _).symm.trans H; rw [hy113]; with_reducible exact H2_) | (have H2_ := (Option.bind_some _ _).symm.trans H; with_reducible exact H2_) | with_reducible exact H | (rw [hy113]; exact H) | exact H
 have Ny113 := Asd.mk hy113
 clear hy113
 have HC2 := Asd.mk H
 clear H
 go_enter Try.func28, Try.ntmps28
 go_upto_if 10 with (first | ((with_reducible refine gate_dst (N := 2) rfl ?_); refine bxE ?hg (N := 2) ?hd (cs := #[.int .i64 0, .string (⟨#[]⟩ : ByteArray)]) (t := 26) ?hr ?_; (case hd => rfl); (case hg => rfl); (case hr => first | (go_simp; done) | (go_simp; rfl)); intro gb112 hg w3 hbox hb; have n0_ := Asd.mk (bwP (by repeat (with_reducible first | exact HB.out | apply bwX)) hb); have n1_ := Asd.mk (hbox); have n2_ := Asd.mk ((by rw [hg]; exact (below_size (by repeat (with_reducible first | exact HB.out | apply bwX))) : w.heap.size ≤ gb112)); have n3_ := Asd.mk ((by rw [hg]; exact (below_size (by repeat (with_reducible first | exact HB.out | apply bwX))) : w.heap.size ≤ gb112)); clear HB; have HB := n0_; have BK112 := n1_; have GW112 := n2_; have GE112 := n3_; clear n0_ n1_ n2_ n3_; clear hb hbox hg) | ((with_reducible refine gate_dst (N := 7) rfl ?_); refine Kd.R_lit k26 _ 26 ?hg (N := 7) ?hd (xs := ([(⟨2, (⟨#[]⟩ : ByteArray)⟩ : S26)] : List (S26))) (inner := [.int .i64 2, .string (⟨#[]⟩ : ByteArray)]) (ok := fun _ => True) (okp := fun _ => True) ?hr ?hp (fun _ hk => hk) trivial (Below.refl _ _) (Nat.le_refl _) (by simp) ?_; (case hd => rfl); (case hg => rfl); (case hr => first | (go_simp; done) | (go_simp; rfl)); (case hp => exact (Reps.c2 (show Kd.M k26 _ _ _ (⟨2, (⟨#[]⟩ : ByteArray)⟩ : S26) [.int .i64 2, .string (⟨#[]⟩ : ByteArray)] from (k26_mkM _ _ _ (⟨2, (⟨#[]⟩ : ByteArray)⟩ : S26) )) (Reps.none _ _))); intro v114 w4 ho5 hb hg_ hnew_; clear hg_ hnew_; (first | rw [← Ny113.out] at ho5 | (simp only [Int.reduceToNat] at ho5; rw [← Ny113.out] at ho5)); have n0_ := Asd.mk (Kd.R_lower (Kd.R_newB ho5 (g := gb112) (o := .cells #[.int .i64 0, .string (⟨#[]⟩ : ByteArray)] 26 (0, 0)) (by (repeat apply bkS); exact BK112.out)) (below_size (by repeat (with_reducible first | exact HB.out | apply bwX | refine bwS ?_ aX)))); have n1_ := Asd.mk (bkB (g := gb112) (o := .cells #[.int .i64 0, .string (⟨#[]⟩ : ByteArray)] 26 (0, 0)) (by (repeat apply bkS); exact BK112.out) hb); have n2_ := Asd.mk (bwP (by repeat (with_reducible first | exact HB.out | apply bwX | refine bwS ?_ aX)) hb); clear BK112; clear HB; have HO115 := n0_; have BK112 := n1_; have HB := n2_; clear n0_ n1_ n2_; clear hb ho5))
 (try simp only [Act.put, qA, qB, qC])
 go_cut [4] (fun v4 wc => ∃ (kq : Nat) (x4_1 : List (S26)), Asd (spec_ReadDeed.j0 kq a0 x4_1 = some (r1, r2, r3)) ∧ Asd (kq ≤ k) ∧ Asd (Kd.R k26 26 wc w.heap.size (fun k_ => k_ ≠ gb112) v4 x4_1) ∧ Asd (wc.heap[gb112]? = some (.cells #[.int .i64 0, .string (⟨#[]⟩ : ByteArray)] 26 (0, 0))) ∧ Asd (Below w.heap.size w wc))
 case first =>
  have H := HC2.out
  clear HC2
  by_cases c6 : (a0.size : Int) > 6
  ·rw [if_pos c6] at H
   have c6b0 : decide (6 < (a0.size : Int)) = true := decide_eq_true c6
   have c6b1 : decide (6 < a0.size) = true := decide_eq_true (by omega)
   clear c6
   (first | rw [c6b0] | (simp only [i64_w, i32_w]; rw [c6b0]) | skip)
   by_cases c7 : 6 ≤ (a0.size : Int); rotate_left; (rw [if_neg c7] at H; exact absurd H (by simp))
   rw [if_pos c7] at H
   have c7b0 := eq_true c7
   have c7b1 : decide (6 ≤ (a0.size : Int)) = true := decide_eq_true c7
   clear c7
   by_cases c8 : y113.length < 5864062014805; rotate_left; (rw [if_neg c8] at H; exact absurd H (by simp))
   rw [if_pos c8] at H
   have LMc8 := Asd.mk c8
   clear c8
   obtain ⟨y116, hy116⟩ : ∃ y_ : List (S26), y_ = (y113 ++ [(⟨0, a0.extract 6 a0.size⟩ : S26)]) := ⟨_, rfl⟩
   replace H : (spec_ReadDeed.j0 k a0 y116) = some (r1, r2, r3) := by first | (rw [hy116]; with_reducible exact H) | (have H2_ := (Option.bind_some _ _).symm.trans H; rw [hy116]; with_reducible exact H2_) | (have H2_ := (Option.bind_some _ _).symm.trans H; with_reducible exact H2_) | with_reducible exact H | (rw [hy116]; exact H) | exact H
   have Ny116 := Asd.mk hy116
   clear hy116
   have H' := Asd.mk H
   clear H
   go_wp2_with (first | ((with_reducible refine gate_builtin (b := .append) (xs := #[.tmp 11, .tmp 15]) rfl ?_); at_builtin; refine Kd.R_append k26 (w0 := w) w.heap.size rfl (.tmp 11) (.tmp 15) 32 26 (.agg #[(.int .i64 0), (.string ⟨#[]⟩)]) 24 rfl Try.underlying32 info26 rfl (by decide) (by omega) v114 y113 (⟨0, a0.extract 6 a0.size⟩ : S26) [.int .i64 0, .string (a0.extract 6 a0.size)] (fun k_ => k_ ≠ gb112) (fun _ => False) rfl rfl ?aP (fun _ hk => hk.elim) ?aF ?aO ?aB ?aS ?aL ?_; (case aP => exact k26_mkM _ _ _ (⟨0, a0.extract 6 a0.size⟩ : S26)); (case aB => exact (by repeat (with_reducible first | exact HB.out | apply bwX | refine bwS ?_ aX))); (case aF => exact (fun k_ hk => Kd.freshB (g := gb112) (o := .cells #[.int .i64 0, .string (⟨#[]⟩ : ByteArray)] 26 (0, 0)) (by (repeat apply bkS); exact BK112.out) k_ hk)); (case aO => exact (by (repeat apply Kd.RS); exact Kd.R_mono HO115.out (fun _ hk => hk.2))); (case aS => exact (below_size (by repeat (with_reducible first | exact HB.out | apply bwX | refine bwS ?_ aX)))); (case aL => have := LMc8.out; omega); intro v117 w9 ho hb hg hat; rw [← Ny116.out] at ho; have n0_ := Asd.mk (blk_grown (g := gb112) (o := .cells #[.int .i64 0, .string (⟨#[]⟩ : ByteArray)] 26 (0, 0)) (by (repeat apply bkS); exact BK112.out) hg (Kd.R_away HO115.out (fun _ hk => hk.2))); have n1_ := Asd.mk (hb); have n2_ := Asd.mk (ho); clear BK112; clear HB; clear HO115; have BK112 := n0_; have HB := n1_; have HO118 := n2_; clear n0_ n1_ n2_; clear ho hb hg hat))
   go_meet
   case rel => exact ⟨_, (y116), H', ⟨by first | omega | exact Nat.le_refl _⟩, ⟨by (repeat apply Kd.RS); exact HO118.out⟩, ⟨by (repeat apply bkS); exact BK112.out⟩, ⟨by repeat (with_reducible first | exact HB.out | apply bwX | refine bwS ?_ aX)⟩⟩
  ·rw [if_neg c6] at H
   have c6b0 : decide (6 < (a0.size : Int)) = false := decide_eq_false c6
   have c6b1 : decide (6 < a0.size) = false := decide_eq_false (by omega)
   clear c6
   (first | rw [c6b0] | (simp only [i64_w, i32_w]; rw [c6b0]) | skip)
   have H' := Asd.mk H
   clear H
   go_wp2
   go_meet
   case rel => exact ⟨_, (y113), H', ⟨by first | omega | exact Nat.le_refl _⟩, ⟨by (repeat apply Kd.RS); exact Kd.R_mono HO115.out (fun _ hk => hk.2)⟩, ⟨by (repeat apply bkS); exact BK112.out⟩, ⟨by repeat (with_reducible first | exact HB.out | apply bwX | refine bwS ?_ aX)⟩⟩
 case rest =>
  clear HC2
  obtain ⟨kq, x4_1, HA, HJ1, HO_4, BK112, HB⟩ := hcut
  cases kq with
  | zero => exact absurd HA.out (by simp [spec_ReadDeed.j0])
  | succ kj1 =>
   have H := HA.out
   clear HA
   simp only [spec_ReadDeed.j0] at H
   have HC10 := Asd.mk H
   clear H
   go_upto_if 19 with (fail)
   go_cut [4] (fun v4 wc => ∃ (kq : Nat) (x4_9 : List (S26)), Asd (spec_ReadDeed.j1 kq a0 x4_9 = some (r1, r2, r3)) ∧ Asd (kq ≤ kj1) ∧ Asd (Kd.R k26 26 wc w.heap.size (fun k_ => k_ ≠ gb112) v4 x4_9) ∧ Asd (wc.heap[gb112]? = some (.cells #[.int .i64 0, .string (⟨#[]⟩ : ByteArray)] 26 (0, 0))) ∧ Asd (Below w.heap.size w wc))
   case first =>
    have H := HC10.out
    clear HC10
    by_cases c11 : (a0.size : Int) > 4
    ·rw [if_pos c11] at H
     have c11b0 : decide (4 < (a0.size : Int)) = true := decide_eq_true c11
     have c11b1 : decide (4 < a0.size) = true := decide_eq_true (by omega)
     clear c11
     (first | rw [c11b0] | (simp only [i64_w, i32_w]; rw [c11b0]) | skip)
     by_cases c12 : 4 ≤ (a0.size : Int); rotate_left; (rw [if_neg c12] at H; exact absurd H (by simp))
     rw [if_pos c12] at H
     have c12b0 := eq_true c12
     have c12b1 : decide (4 ≤ (a0.size : Int)) = true := decide_eq_true c12
     clear c12
     by_cases c13 : x4_1.length < 5864062014805; rotate_left; (rw [if_neg c13] at H; exact absurd H (by simp))
     rw [if_pos c13] at H
     have LMc13 := Asd.mk c13
     clear c13
     obtain ⟨y119, hy119⟩ : ∃ y_ : List (S26), y_ = (x4_1 ++ [(⟨1, a0.extract 4 a0.size⟩ : S26)]) := ⟨_, rfl⟩
     replace H : (spec_ReadDeed.j1 kj1 a0 y119) = some (r1, r2, r3) := by first | (rw [hy119]; with_reducible exact H) | (have H2_ := (Option.bind_some _ _).symm.trans H; rw [hy119]; with_reducible exact H2_) | (have H2_ := (Option.bind_some _ _).symm.trans H; with_reducible exact H2_) | with_reducible exact H | (rw [hy119]; exact H) | exact H
     have Ny119 := Asd.mk hy119
     clear hy119
     have H' := Asd.mk H
     clear H
     go_wp2_with (first | ((with_reducible refine gate_builtin (b := .append) (xs := #[.tmp 20, .tmp 24]) rfl ?_); at_builtin; refine Kd.R_append k26 (w0 := w) w.heap.size rfl (.tmp 20) (.tmp 24) 32 26 (.agg #[(.int .i64 0), (.string ⟨#[]⟩)]) 24 rfl Try.underlying32 info26 rfl (by decide) (by omega) u4 x4_1 (⟨1, a0.extract 4 a0.size⟩ : S26) [.int .i64 1, .string (a0.extract 4 a0.size)] (fun k_ => k_ ≠ gb112) (fun _ => False) rfl rfl ?aP (fun _ hk => hk.elim) ?aF ?aO ?aB ?aS ?aL ?_; (case aP => exact k26_mkM _ _ _ (⟨1, a0.extract 4 a0.size⟩ : S26)); (case aB => exact (by repeat (with_reducible first | exact HB.out | apply bwX | refine bwS ?_ aX))); (case aF => exact (fun k_ hk => Kd.freshB (g := gb112) (o := .cells #[.int .i64 0, .string (⟨#[]⟩ : ByteArray)] 26 (0, 0)) (by (repeat apply bkS); exact BK112.out) k_ hk)); (case aO => exact (by (repeat apply Kd.RS); exact HO_4.out)); (case aS => exact (below_size (by repeat (with_reducible first | exact HB.out | apply bwX | refine bwS ?_ aX)))); (case aL => have := LMc13.out; omega); intro v120 w14 ho hb hg hat; rw [← Ny119.out] at ho; have n0_ := Asd.mk (blk_grown (g := gb112) (o := .cells #[.int .i64 0, .string (⟨#[]⟩ : ByteArray)] 26 (0, 0)) (by (repeat apply bkS); exact BK112.out) hg (Kd.R_away HO_4.out (fun _ hk => hk))); have n1_ := Asd.mk (hb); have n2_ := Asd.mk (ho); clear BK112; clear HB; clear HO_4; have BK112 := n0_; have HB := n1_; have HO121 := n2_; clear n0_ n1_ n2_; clear ho hb hg hat))
     go_meet
     case rel => exact ⟨_, (y119), H', ⟨by have := HJ1.out; first | omega | exact Nat.le_refl _⟩, ⟨by (repeat apply Kd.RS); exact HO121.out⟩, ⟨by (repeat apply bkS); exact BK112.out⟩, ⟨by repeat (with_reducible first | exact HB.out | apply bwX | refine bwS ?_ aX)⟩⟩
    ·rw [if_neg c11] at H
     have c11b0 : decide (4 < (a0.size : Int)) = false := decide_eq_false c11
     have c11b1 : decide (4 < a0.size) = false := decide_eq_false (by omega)
     clear c11
     (first | rw [c11b0] | (simp only [i64_w, i32_w]; rw [c11b0]) | skip)
     have H' := Asd.mk H
     clear H
     go_wp2
     go_meet
     case rel => exact ⟨_, (x4_1), H', ⟨by have := HJ1.out; first | omega | exact Nat.le_refl _⟩, ⟨by (repeat apply Kd.RS); exact HO_4.out⟩, ⟨by (repeat apply bkS); exact BK112.out⟩, ⟨by repeat (with_reducible first | exact HB.out | apply bwX | refine bwS ?_ aX)⟩⟩
   case rest =>
    clear HC10
    obtain ⟨kq, x4_9, HA, HJ9, HO_4, BK112, HB⟩ := hcut
    cases kq with
    | zero => exact absurd HA.out (by simp [spec_ReadDeed.j1])
    | succ kj9 =>
     have H := HA.out
     clear HA
     simp only [spec_ReadDeed.j1] at H
     have H' := Asd.mk H
     clear H
     go_wp2
     go_loopg [5] kj9 (fun kq v5 w' => ∃ (x5_3 : Int) (x113000_3 : Int) (x113001_3 : ByteArray), v5 = .int .i64 x5_3 ∧ Asd (spec_ReadDeed.l0 kq a0 x4_9 x5_3 = some (r1, r2, r3)) ∧ Asd (kq ≤ kj9) ∧ Asd (Kd.R k26 26 w' w.heap.size (fun k_ => k_ ≠ gb112) u4 x4_9) ∧ Asd (w'.heap[gb112]? = some (.cells #[.int .i64 x113000_3, .string x113001_3] 26 (0, 0))) ∧ Asd (Below w.heap.size w w'))
     case atStart => exact ⟨(0), (0), ((⟨#[]⟩ : ByteArray)), (by first | rfl | (simp; done) | (simp [*]; done)), H', ⟨Nat.le_refl _⟩, ⟨by (repeat apply Kd.RS); exact HO_4.out⟩, ⟨by (repeat apply bkS); exact BK112.out⟩, ⟨by repeat (with_reducible first | exact HB.out | apply bwX | refine bwS ?_ aX)⟩⟩
     case round =>
      clear H'
      obtain ⟨x5_3, x113000_3, x113001_3, rfl, HA, HK3, HO_4, BK112, HB⟩ := hrel
      cases gk with
      | zero => exact absurd HA.out (by simp [spec_ReadDeed.l0])
      | succ k3 =>
       have H := HA.out
       clear HA
       simp only [spec_ReadDeed.l0] at H
       by_cases c15 : x5_3 < (x4_9.length : Int)
       ·rw [if_pos c15] at H
        have c15b0 : decide (x5_3 < (x4_9.length : Int)) = true := decide_eq_true c15
        clear c15
        by_cases c16 : a0.toList = ([] : List UInt8)
        ·rw [if_pos c16] at H
         have c16b0 : (a0.toList == ([] : List UInt8)) = true := beq_iff_eq.mpr c16
         have c16b1 : (a0.toList != ([] : List UInt8)) = false := bne_eq_false_iff_eq.mpr c16
         clear c16
         have H' := Asd.mk H
         clear H
         obtain ⟨Ao17, co17, eo17⟩ := Kd.R_slice HO_4.out
         subst eo17
         go_wp2
         go_roundg k3
         case measure => have := HJ1.out; have := HJ9.out; have := HK3.out; omega
         case rel => exact ⟨(wrap64 (x5_3 + 1)), (x113000_3), (x113001_3), (by first | rfl | (simp; done) | (simp [*]; done)), H', ⟨by have := HJ1.out; have := HJ9.out; have := HK3.out; omega⟩, ⟨by (repeat apply Kd.RS); exact HO_4.out⟩, ⟨by (repeat apply bkS); exact BK112.out⟩, ⟨by repeat (with_reducible first | exact HB.out | apply bwX | refine bwS ?_ aX)⟩⟩
        ·rw [if_neg c16] at H
         have c16b0 : (a0.toList == ([] : List UInt8)) = false := beq_eq_false_iff_ne.mpr c16
         have c16b1 : (a0.toList != ([] : List UInt8)) = true := bne_iff_ne.mpr c16
         by_cases c18 : 0 ≤ x5_3; rotate_left; (rw [if_neg c18] at H; exact absurd H (by simp))
         rw [if_pos c18] at H
         have c18b0 : decide (0 ≤ x5_3) = true := decide_eq_true c18
         clear c18
         replace H := Option.bind_eq_some_iff.mp H
         obtain ⟨t123, A190, H⟩ := H
         try dsimp only at H
         have A19 := Asd.mk A190
         clear A190
         by_cases c20 : t123.toList = a0.toList
         ·rw [if_pos c20] at H
          have c20b0 : (t123.toList == a0.toList) = true := beq_iff_eq.mpr c20
          have c20b1 : (t123.toList != a0.toList) = false := bne_eq_false_iff_eq.mpr c20
          clear c20
          simp only [Option.some.injEq, Prod.mk.injEq] at H
          obtain ⟨rfl, rfl, rfl⟩ := H
          obtain ⟨Ao21, co21, eo21⟩ := Kd.R_slice HO_4.out
          subst eo21
          have p122 : 0 ≤ (x5_3 : Int) := odt
          have q122 : x5_3 < (x4_9.length : Int) := odt
          obtain ⟨ad122, e122, hx122_0, hx122_1⟩ := at_T26 (Kd.R_reads' HO_4.out).2.2 x5_3 p122 q122
          cases e122
          replace p122 := eq_true p122
          replace q122 := eq_true q122
          go_wp2_with (first | (go_at_call 20; (with_reducible refine (spec_DeedText.calls k3 ((rd_T26 x4_9 x5_3).f0) ((rd_T26 x4_9 x5_3).f1) t123 _ A19.out).mono ?_); rintro e w22 ⟨rfl, hb⟩; have n0_ := Asd.mk (Kd.R_below (by (repeat apply Kd.RS); exact HO_4.out) hb); have n1_ := Asd.mk (bkB (g := gb112) (o := .cells #[.int .i64 x113000_3, .string x113001_3] 26 (0, 0)) (by (repeat apply bkS); exact BK112.out) hb); have n2_ := Asd.mk (bwP (by repeat (with_reducible first | exact HB.out | apply bwX | refine bwS ?_ aX)) hb); clear HO_4; clear BK112; clear HB; have HO_4 := n0_; have BK112 := n1_; have HB := n2_; clear n0_ n1_ n2_; (try clear hb); (try clear hb2); (try clear hk); (try clear hi); have p124 : 0 ≤ (x5_3 : Int) := odt; have q124 : x5_3 < (x4_9.length : Int) := odt; obtain ⟨ad124, e124, hx124_0, hx124_1⟩ := at_T26 (Kd.R_reads' HO_4.out).2.2 x5_3 p124 q124; obtain rfl : ad122 = ad124 := (by injection e124); replace p124 := eq_true p124; replace q124 := eq_true q124; have hcz23_0 : w22.cell? ⟨gb112, 0, none⟩ = some (.int .i64 x113000_3) := (bkC BK112.out 0).trans rfl; have hcz23_1 : w22.cell? ⟨gb112, 1, none⟩ = some (.string x113001_3) := (bkC BK112.out 1).trans rfl; have hfz23_0 := bkF BK112.out 0; have hfz23_1 := bkF BK112.out 1))
          refine bodyPost_ret (results_ct rfl _ _ gb112 26 #[.int .i64 ((rd_T26 x4_9 x5_3).f0), .string ((rd_T26 x4_9 x5_3).f1)] (0, 0) _ rfl (by (repeat apply bkS); refine bkP (cs := #[.int .i64 ((rd_T26 x4_9 x5_3).f0), .string x113001_3]) ?_ 1 _ rfl; (repeat apply bkS); refine bkP (cs := #[.int .i64 x113000_3, .string x113001_3]) ?_ 0 _ rfl; (repeat apply bkS); exact BK112.out) Try.underlying26 rfl (by kernel_rfl)) rfl ?_
          exact ⟨by first | rfl | (simp [*, errW_none, errW_some] <;> rfl), by repeat (with_reducible first | exact HB.out | apply bwX | refine bwS ?_ aX)⟩
         ·rw [if_neg c20] at H
          have c20b0 : (t123.toList == a0.toList) = false := beq_eq_false_iff_ne.mpr c20
          have c20b1 : (t123.toList != a0.toList) = true := bne_iff_ne.mpr c20
          have H' := Asd.mk H
          clear H
          obtain ⟨Ao24, co24, eo24⟩ := Kd.R_slice HO_4.out
          subst eo24
          have p122 : 0 ≤ (x5_3 : Int) := odt
          have q122 : x5_3 < (x4_9.length : Int) := odt
          obtain ⟨ad122, e122, hx122_0, hx122_1⟩ := at_T26 (Kd.R_reads' HO_4.out).2.2 x5_3 p122 q122
          cases e122
          replace p122 := eq_true p122
          replace q122 := eq_true q122
          go_wp2_with (first | (go_at_call 20; (with_reducible refine (spec_DeedText.calls k3 ((rd_T26 x4_9 x5_3).f0) ((rd_T26 x4_9 x5_3).f1) t123 _ A19.out).mono ?_); rintro e w25 ⟨rfl, hb⟩; have n0_ := Asd.mk (Kd.R_below (by (repeat apply Kd.RS); exact HO_4.out) hb); have n1_ := Asd.mk (bkB (g := gb112) (o := .cells #[.int .i64 x113000_3, .string x113001_3] 26 (0, 0)) (by (repeat apply bkS); exact BK112.out) hb); have n2_ := Asd.mk (bwP (by repeat (with_reducible first | exact HB.out | apply bwX | refine bwS ?_ aX)) hb); clear HO_4; clear BK112; clear HB; have HO_4 := n0_; have BK112 := n1_; have HB := n2_; clear n0_ n1_ n2_; (try clear hb); (try clear hb2); (try clear hk); (try clear hi)))
          go_roundg k3
          case measure => have := HJ1.out; have := HJ9.out; have := HK3.out; omega
          case rel => exact ⟨(wrap64 (x5_3 + 1)), (x113000_3), (x113001_3), (by first | rfl | (simp; done) | (simp [*]; done)), H', ⟨by have := HJ1.out; have := HJ9.out; have := HK3.out; omega⟩, ⟨by (repeat apply Kd.RS); exact HO_4.out⟩, ⟨by (repeat apply bkS); exact BK112.out⟩, ⟨by repeat (with_reducible first | exact HB.out | apply bwX | refine bwS ?_ aX)⟩⟩
       ·rw [if_neg c15] at H
        have c15b0 : decide (x5_3 < (x4_9.length : Int)) = false := decide_eq_false c15
        clear c15
        simp only [Option.some.injEq, Prod.mk.injEq] at H
        obtain ⟨rfl, rfl, rfl⟩ := H
        obtain ⟨Ao26, co26, eo26⟩ := Kd.R_slice HO_4.out
        subst eo26
        have hcz27_0 : wr.cell? ⟨gb112, 0, none⟩ = some (.int .i64 x113000_3) := (bkC BK112.out 0).trans rfl
        have hcz27_1 : wr.cell? ⟨gb112, 1, none⟩ = some (.string x113001_3) := (bkC BK112.out 1).trans rfl
        have hfz27_0 := bkF BK112.out 0
        have hfz27_1 := bkF BK112.out 1
        go_wp2
        refine bodyPost_ret (results_ct rfl _ _ gb112 26 #[.int .i64 0, .string (⟨#[]⟩ : ByteArray)] (0, 0) _ rfl (by (repeat apply bkS); refine bkP (cs := #[.int .i64 0, .string x113001_3]) ?_ 1 _ rfl; (repeat apply bkS); refine bkP (cs := #[.int .i64 x113000_3, .string x113001_3]) ?_ 0 _ rfl; (repeat apply bkS); exact BK112.out) Try.underlying26 rfl (by kernel_rfl)) rfl ?_
        exact ⟨by first | rfl | (simp [*, errW_none, errW_some] <;> rfl), by repeat (with_reducible first | exact HB.out | apply bwX | refine bwS ?_ aX)⟩

/-! ### stringslite_IndexByte: function 151 (by hand) -/
def stringslite_IndexByte.f (s : ByteArray) (c : Int) : Option Int := some (Lib.indexByte s.data.toList c.toNat.toUInt8)
set_option maxRecDepth 100000 in
theorem stringslite_IndexByte.calls (s : ByteArray) (c : Int) (r : Int) (w : World) (h : stringslite_IndexByte.f s c = some r) :
  Calls Try.prog 151 #[.string s, .int .u8 c] w fun e w' => e = .returned (.int .i64 r) ∧ Drawn0 w w' := by
 obtain rfl := Option.some.inj h
 clear h
 go_enter Try.func151, Try.ntmps151
 go_wp2
 rw [run_callFunc_extern Try.func168 (by kernel_rfl) (by kernel_rfl) (by kernel_rfl) (e := Extern.BytealgIndexByte.indexByte) (by kernel_rfl), Lib.run_indexByteString]
 simp only [Result.andThen]
 rw [Oper.upon_value]
 go_wp2
 go_ret
 exact ⟨rfl, Drawn0.refl _⟩

/-! ### stringslite_Index: function 139 (by hand) -/
def stringslite_Index.f (s sub : ByteArray) : Option Int := if sub.size = 1 then (if s.size < 9223372036854775807 then (if (sub.toList == s.toList) = true then some 0 else stringslite_IndexByte.f s (bt sub 0)) else none) else none
set_option maxRecDepth 100000 in
theorem stringslite_Index.calls (s sub : ByteArray) (r : Int) (w : World) (h : stringslite_Index.f s sub = some r) :
  Calls Try.prog 139 #[.string s, .string sub] w fun e w' => e = .returned (.int .i64 r) ∧ Drawn0 w w' := by
 unfold stringslite_Index.f at h
 by_cases h1 : sub.size = 1
 ·rw [if_pos h1] at h
  by_cases h2 : s.size < 9223372036854775807
  ·rw [if_pos h2] at h
   have hs1 : ((sub.size : Int) == 0) = false := by rw [h1]; rfl
   have hs2 : ((sub.size : Int) == 1) = true := by rw [h1]; rfl
   have hs3 : decide (0 < sub.size) = true := decide_eq_true (by omega)
   have hs4 : (0 : Int) < (sub.size : Int) := by omega
   have hs5 : decide ((0 : Int) < (sub.size : Int)) = true := decide_eq_true hs4
   by_cases h3 : (sub.toList == s.toList) = true
   ·rw [if_pos h3] at h
    obtain rfl := Option.some.inj h
    clear h h1 h2
    go_enter Try.func139, Try.ntmps139
    go_wp2
    go_ret
    exact ⟨rfl, Drawn0.refl _⟩
   ·rw [if_neg h3] at h
    have HI := Asd.mk (fun (hh : 0 < sub.size) W => stringslite_IndexByte.calls s ((sub[0]'hh).toNat : Int) r W (by rw [show ((sub[0]'hh).toNat : Int) = bt sub 0 from bt_at sub 0 hh]; exact h))
    have h4 : (sub.toList == s.toList) = false := Bool.eq_false_iff.mpr h3
    clear h h1 h2 h3
    go_enter Try.func139, Try.ntmps139
    go_wp2_with fail
    refine (HI.out _ _).mono ?_
    rintro e w1 ⟨rfl, ⟨n, rfl⟩⟩
    go_wp2
    go_ret
    exact ⟨rfl, ⟨⟨n, rfl⟩⟩⟩
  ·rw [if_neg h2] at h
   cases h
 ·rw [if_neg h1] at h
  cases h

/-! ### stringslite_Cut: function 118 (by hand) -/
def stringslite_Cut.f (s sep : ByteArray) : Option (ByteArray × ByteArray × Bool) := (stringslite_Index.f s sep).bind fun i => if i < 0 then some (s, (⟨#[]⟩ : ByteArray), false) else if i.toNat + sep.size ≤ s.size then some (s.extract 0 i.toNat, s.extract (i.toNat + sep.size) s.size, true) else none
theorem stringslite_Cut.calls (s sep : ByteArray) (r1 r2 : ByteArray) (r3 : Bool) (w : World) (h : stringslite_Cut.f s sep = some (r1, r2, r3)) :
  Calls Try.prog 118 #[.string s, .string sep] w fun e w' => e = .returned (.tuple #[.string r1, .string r2, .bool r3]) ∧ Drawn0 w w' := by
 unfold stringslite_Cut.f at h
 obtain ⟨i, hi, h⟩ := Option.bind_eq_some_iff.mp h
 by_cases h0 : i < 0
 ·rw [if_pos h0] at h
  obtain ⟨rfl, rfl, rfl⟩ : s = r1 ∧ (⟨#[]⟩ : ByteArray) = r2 ∧ false = r3 := by simpa using h
  have HI := Asd.mk (fun W => stringslite_Index.calls s sep i W hi)
  have c1 : decide (0 ≤ i) = false := decide_eq_false (by omega)
  have c2 : decide (i < 0) = true := decide_eq_true h0
  clear h hi h0
  go_enter Try.func118, Try.ntmps118
  go_wp2_with fail
  refine (HI.out _).mono ?_
  rintro e w1 ⟨rfl, ⟨n, rfl⟩⟩
  go_wp2
  go_ret3
  exact ⟨rfl, ⟨⟨n, rfl⟩⟩⟩
 ·rw [if_neg h0] at h
  by_cases h1 : i.toNat + sep.size ≤ s.size
  ·rw [if_pos h1] at h
   have hsz : s.size < 9223372036854775807 := by
    unfold stringslite_Index.f at hi
    split at hi
    ·split at hi
     ·assumption
     ·cases hi
    ·cases hi
   obtain ⟨rfl, rfl, rfl⟩ : s.extract 0 i.toNat = r1 ∧ s.extract (i.toNat + sep.size) s.size = r2 ∧ true = r3 := by simpa using h
   clear h
   obtain ⟨n, rfl⟩ := Int.eq_ofNat_of_zero_le (by omega : 0 ≤ i)
   rw [Int.toNat_natCast] at h1 ⊢
   have HI := Asd.mk (fun W => stringslite_Index.calls s sep n W hi)
   have c0 : (0 : Int) ≤ (n : Int) := by omega
   have c2 : (n : Int) ≤ (s.size : Int) := by omega
   have c3 : (0 : Int) ≤ (n : Int) + (sep.size : Int) := by omega
   have c4 : (n : Int) + (sep.size : Int) ≤ (s.size : Int) := by omega
   have c5 : (n : Int) + (sep.size : Int) < 9223372036854775807 := by omega
   clear hi h0 h1
   go_enter Try.func118, Try.ntmps118
   go_wp2_with fail
   refine (HI.out _).mono ?_
   rintro e w1 ⟨rfl, ⟨m, rfl⟩⟩
   go_wp2
   go_quiet (fail)
   go_wp2
   go_ret3
   exact ⟨rfl, Drawn0.step ⟨⟨m, rfl⟩⟩ _⟩
  ·rw [if_neg h1] at h
   cases h

/-! ### strings_Cut: function 76 (by hand) -/
def strings_Cut.f (s sep : ByteArray) : Option (ByteArray × ByteArray × Bool) := stringslite_Cut.f s sep
theorem strings_Cut.calls (s sep : ByteArray) (r1 r2 : ByteArray) (r3 : Bool) (w : World) (h : strings_Cut.f s sep = some (r1, r2, r3)) :
  Calls Try.prog 76 #[.string s, .string sep] w fun e w' => e = .returned (.tuple #[.string r1, .string r2, .bool r3]) ∧ Drawn0 w w' := by
 have HI := Asd.mk (fun W => stringslite_Cut.calls s sep r1 r2 r3 W h)
 clear h
 go_enter Try.func76, Try.ntmps76
 go_wp2_with fail
 refine (HI.out _).mono ?_
 rintro e w1 ⟨rfl, ⟨n, rfl⟩⟩
 go_wp2
 go_ret3
 exact ⟨rfl, ⟨⟨n, rfl⟩⟩⟩

end Go.Proofs.Ytihgpkohglcijaa.P
