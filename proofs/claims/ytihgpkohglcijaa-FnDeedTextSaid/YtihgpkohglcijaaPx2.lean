-- Written by a program of this session (wip/hook.py), which runs the kit's printer; Lean checks it.
import Derived.Test.YtihgpkohglcijaaPx0
import Derived.Test.YtihgpkohglcijaaPx1
namespace Go.Proofs.Ytihgpkohglcijaa.P
open Go.RowKit Go.Proofs.YtihgpkohglcijaaW.PrintWords Go.Proofs.YtihgpkohglcijaaW.PrintLast Go.Proofs.YtihgpkohglcijaaW.PrintMore
attribute [local go_sem] max2_int min2_int max_two min_two max_three min_three max_four min_four   -- for this text's walks alone
set_option linter.unusedVariables false
set_option linter.unusedSimpArgs false

attribute [local go_sem high] eqA26
/-! ### spec_l1In: function 72 -/
def spec_l1In.f (a0 : Int) (a1 : Int) (a2 : Int) : Option (Bool) := if a0 ≥ a1 then (some (decide (a0 ≤ a2))) else (some false)
set_option maxHeartbeats 8000000 in
set_option maxRecDepth 100000 in
theorem spec_l1In.calls (a0 : Int) (a1 : Int) (a2 : Int) (r : Bool) (w : World) (h : spec_l1In.f a0 a1 a2 = some r) :
  Calls Try.prog 72 #[.int .i64 a0, .int .i64 a1, .int .i64 a2] w fun e w' => e = .returned (.bool r) ∧ Drawn0 w w' := by
 have H : (if a0 ≥ a1 then (some (decide (a0 ≤ a2))) else (some false)) = some r := h
 clear h
 by_cases c4 : a0 ≥ a1
 ·rw [if_pos c4] at H
  have c4b0 : decide (a1 ≤ a0) = true := decide_eq_true c4
  clear c4
  obtain rfl := Option.some.inj H
  go_enter Try.func72, Try.ntmps72
  go_wp2
  go_ret
  exact ⟨by first | rfl | (simp; done) | (simp [*]; done), by repeat (first | exact Drawn0.refl _ | apply Drawn0.step)⟩
 ·rw [if_neg c4] at H
  have c4b0 : decide (a1 ≤ a0) = false := decide_eq_false c4
  clear c4
  obtain rfl := Option.some.inj H
  go_enter Try.func72, Try.ntmps72
  go_wp2
  go_ret
  exact ⟨by first | rfl | (simp; done) | (simp [*]; done), by repeat (first | exact Drawn0.refl _ | apply Drawn0.step)⟩

/-! ### spec_l10Plain: function 73 -/
def spec_l10Plain.l0 : Nat → ByteArray → Int → Option (Bool)
 | 0, _, _ => none
 | k + 1, x0, x3 => if x3 < (x0.size : Int) then (if 0 ≤ x3 then (if (bt x0 x3) < 32 then (some false) else (if (bt x0 x3) > 126 then (some false) else (spec_l10Plain.l0 k x0 (wrap64 (x3 + 1))))) else (none)) else (some (decide ((x0.size : Int) > 0)))
def spec_l10Plain.f (k : Nat) (a0 : ByteArray) : Option (Bool) := spec_l10Plain.l0 k a0 0
theorem spec_l10Plain.mono_l : ∀ k, (∀ y0 y1, LeO (spec_l10Plain.l0 k y0 y1) (spec_l10Plain.l0 (k + 1) y0 y1))
 | 0 => fun _ _ r h => by simp [spec_l10Plain.l0] at h
 | k + 1 => by
  have ih0 := spec_l10Plain.mono_l k
  ·intro y0 y1
   unfold spec_l10Plain.l0
   repeat' first
   | (with_reducible exact ih0 _ _)
   | (with_reducible exact LeO.refl _)
   | (with_reducible exact LeO.none _)
   | (with_reducible refine LeO.ite ?_ ?_)
   | (with_reducible refine LeO.bind ?_ (fun _ => ?_))
   | refine LeO.ite ?_ ?_
   | refine LeO.bind ?_ (fun _ => ?_)
theorem spec_l10Plain.mono : ∀ a0 k, LeO (spec_l10Plain.f k a0) (spec_l10Plain.f (k + 1) a0) := by
 intro a0 k
 have ih0 := spec_l10Plain.mono_l k
 unfold spec_l10Plain.f
 repeat' first
   | (with_reducible exact ih0 _ _)
   | (with_reducible exact LeO.refl _)
   | (with_reducible exact LeO.none _)
   | (with_reducible refine LeO.ite ?_ ?_)
   | (with_reducible refine LeO.bind ?_ (fun _ => ?_))
   | refine LeO.ite ?_ ?_
   | refine LeO.bind ?_ (fun _ => ?_)
set_option maxHeartbeats 8000000 in
set_option maxRecDepth 100000 in
theorem spec_l10Plain.calls (k : Nat) (a0 : ByteArray) (r : Bool) (w : World) (h : spec_l10Plain.f k a0 = some r) :
  Calls Try.prog 73 #[.string a0] w fun e w' => e = .returned (.bool r) ∧ Drawn0 w w' := by
 have H : (spec_l10Plain.l0 k a0 0) = some r := h
 clear h
 have H' := Asd.mk H
 clear H
 go_enter Try.func73, Try.ntmps73
 go_wp2
 go_loopg [3] k (fun kq v3 w' => ∃ (x3_1 : Int), v3 = .int .i64 x3_1 ∧ Asd (spec_l10Plain.l0 kq a0 x3_1 = some r) ∧ Asd (kq ≤ k) ∧ Drawn0 w w')
 case atStart => exact ⟨(0), (by first | rfl | (simp; done) | (simp [*]; done)), H', ⟨Nat.le_refl _⟩, by repeat (first | exact Drawn0.refl _ | apply Drawn0.step)⟩
 case round =>
  clear H'
  obtain ⟨x3_1, rfl, HA, HK1, ⟨m1, rfl⟩⟩ := hrel
  cases gk with
  | zero => exact absurd HA.out (by simp [spec_l10Plain.l0])
  | succ k1 =>
   have H := HA.out
   clear HA
   simp only [spec_l10Plain.l0] at H
   by_cases c2 : x3_1 < (a0.size : Int)
   ·rw [if_pos c2] at H
    have c2b0 : decide (x3_1 < (a0.size : Int)) = true := decide_eq_true c2
    clear c2
    by_cases c3 : 0 ≤ x3_1
    ·rw [if_pos c3] at H
     have c3b0 : decide (0 ≤ x3_1) = true := decide_eq_true c3
     clear c3
     by_cases c5 : (bt a0 x3_1) < 32
     ·rw [if_pos c5] at H
      have c5b0 : decide ((bt a0 x3_1) < 32) = true := decide_eq_true c5
      clear c5
      obtain rfl := Option.some.inj H
      have p4 : 0 ≤ (x3_1 : Int) := odt
      have q4 : x3_1 < (a0.size : Int) := odt
      have hx4 := bt_at a0 x3_1
      replace p4 := eq_true p4
      replace q4 := eq_true q4
      go_wp2
      go_ret
      exact ⟨by first | rfl | (simp; done) | (simp [*]; done), by repeat (first | exact Drawn0.refl _ | apply Drawn0.step)⟩
     ·rw [if_neg c5] at H
      have c5b0 : decide ((bt a0 x3_1) < 32) = false := decide_eq_false c5
      clear c5
      by_cases c7 : (bt a0 x3_1) > 126
      ·rw [if_pos c7] at H
       have c7b0 : decide (126 < (bt a0 x3_1)) = true := decide_eq_true c7
       clear c7
       obtain rfl := Option.some.inj H
       have p4 : 0 ≤ (x3_1 : Int) := odt
       have q4 : x3_1 < (a0.size : Int) := odt
       have hx4 := bt_at a0 x3_1
       replace p4 := eq_true p4
       replace q4 := eq_true q4
       have p6 : 0 ≤ (x3_1 : Int) := odt
       have q6 : x3_1 < (a0.size : Int) := odt
       have hx6 := bt_at a0 x3_1
       replace p6 := eq_true p6
       replace q6 := eq_true q6
       go_wp2
       go_ret
       exact ⟨by first | rfl | (simp; done) | (simp [*]; done), by repeat (first | exact Drawn0.refl _ | apply Drawn0.step)⟩
      ·rw [if_neg c7] at H
       have c7b0 : decide (126 < (bt a0 x3_1)) = false := decide_eq_false c7
       clear c7
       have H' := Asd.mk H
       clear H
       have p4 : 0 ≤ (x3_1 : Int) := odt
       have q4 : x3_1 < (a0.size : Int) := odt
       have hx4 := bt_at a0 x3_1
       replace p4 := eq_true p4
       replace q4 := eq_true q4
       have p6 : 0 ≤ (x3_1 : Int) := odt
       have q6 : x3_1 < (a0.size : Int) := odt
       have hx6 := bt_at a0 x3_1
       replace p6 := eq_true p6
       replace q6 := eq_true q6
       go_wp2
       go_roundg k1
       case measure => have := HK1.out; omega
       case rel => exact ⟨(wrap64 (x3_1 + 1)), (by first | rfl | (simp; done) | (simp [*]; done)), H', ⟨by have := HK1.out; omega⟩, by repeat (first | exact Drawn0.refl _ | apply Drawn0.step)⟩
    ·rw [if_neg c3] at H
     exact absurd H (by simp)
   ·rw [if_neg c2] at H
    have c2b0 : decide (x3_1 < (a0.size : Int)) = false := decide_eq_false c2
    clear c2
    obtain rfl := Option.some.inj H
    go_wp2
    go_ret
    exact ⟨by first | rfl | (simp; done) | (simp [*]; done), by repeat (first | exact Drawn0.refl _ | apply Drawn0.step)⟩

/-! ### spec_DeedText: function 20 -/
def spec_DeedText.j0 : Nat → Bool → Int → ByteArray → Option (ByteArray)
 | 0, _, _, _ => none
 | k + 1, x3, x102000, x102001 => if x3 = true then ((some (([(⟨#[102, 105, 114, 115, 116]⟩ : ByteArray), (⟨#[97, 108, 108]⟩ : ByteArray)] : List ByteArray) : List ByteArray)).bind fun y104 => (if 0 ≤ x102000 then (if x102000 < (y104.length : Int) then (if (rdOf ByteArray.empty y104 x102000).size + 1 ≤ 9223372036854775807 then (if ((rdOf ByteArray.empty y104 x102000) ++ (⟨#[32]⟩ : ByteArray)).size + x102001.size ≤ 9223372036854775807 then (some (((rdOf ByteArray.empty y104 x102000) ++ (⟨#[32]⟩ : ByteArray)) ++ x102001)) else (none)) else (none)) else (none)) else (none))) else (if (x102000 == 2 && (x102001.toList == ([] : List UInt8))) = true then (some (⟨#[98, 97, 99, 107]⟩ : ByteArray)) else (some (⟨#[]⟩ : ByteArray)))
def spec_DeedText.f (k : Nat) (a0_0 : Int) (a0_1 : ByteArray) : Option (ByteArray) := (spec_l1In.f a0_0 0 1).bind fun t102 => (if t102 = true then ((spec_l10Plain.f k a0_1).bind fun t103 => (spec_DeedText.j0 k t103 a0_0 a0_1)) else (spec_DeedText.j0 k false a0_0 a0_1))
theorem spec_DeedText.mono_l : ∀ k, (∀ y0 y1 y2, LeO (spec_DeedText.j0 k y0 y1 y2) (spec_DeedText.j0 (k + 1) y0 y1 y2))
 | 0 => fun _ _ _ r h => by simp [spec_DeedText.j0] at h
 | k + 1 => by
  have ih0 := spec_DeedText.mono_l k
  ·intro y0 y1 y2
   unfold spec_DeedText.j0
   repeat' first
   | (with_reducible exact ih0 _ _ _)
   | (with_reducible exact spec_l10Plain.mono _ _)
   | (with_reducible exact LeO.refl _)
   | (with_reducible exact LeO.none _)
   | (with_reducible refine LeO.ite ?_ ?_)
   | (with_reducible refine LeO.bind ?_ (fun _ => ?_))
   | refine LeO.ite ?_ ?_
   | refine LeO.bind ?_ (fun _ => ?_)
theorem spec_DeedText.mono : ∀ a0 a1 k, LeO (spec_DeedText.f k a0 a1) (spec_DeedText.f (k + 1) a0 a1) := by
 intro a0 a1 k
 have ih0 := spec_DeedText.mono_l k
 unfold spec_DeedText.f
 repeat' first
   | (with_reducible exact ih0 _ _ _)
   | (with_reducible exact spec_l10Plain.mono _ _)
   | (with_reducible exact LeO.refl _)
   | (with_reducible exact LeO.none _)
   | (with_reducible refine LeO.ite ?_ ?_)
   | (with_reducible refine LeO.bind ?_ (fun _ => ?_))
   | refine LeO.ite ?_ ?_
   | refine LeO.bind ?_ (fun _ => ?_)
def spec_DeedText.T2 : Bool × List (List Nat × List Nat) := (true, [([], []), ([], []), ([1], [1]), ([0, 2], [0, 2]), ([3], [3]), ([4], [4]), ([], []), ([6], [6]), ([5, 7], [5, 7]), ([8, 0, 1, 2, 3, 4, 5, 6, 7, 8], [8])])
def spec_DeedText.B2 : List Nat := [0, 0, 2, 7, 15, 31, 0, 64, 255, 511]
theorem spec_DeedText.tab2 : rtab .any (opsOf Try.f20 2) = spec_DeedText.T2 := by kernel_rfl
theorem spec_DeedText.bits2 : waitsOk spec_DeedText.T2.2 spec_DeedText.B2 = true := by kernel_rfl
set_option maxHeartbeats 8000000 in
set_option maxRecDepth 100000 in
theorem spec_DeedText.calls (k : Nat) (a0_0 : Int) (a0_1 : ByteArray) (r : ByteArray) (w : World) (h : spec_DeedText.f k a0_0 a0_1 = some r) :
  Calls Try.prog 20 #[.agg #[.int .i64 a0_0, .string a0_1]] w fun e w' => e = .returned (.string r) ∧ Below w.heap.size w w' := by
 have hu26 := Try.underlying26
 have HB := Asd.mk (Below.refl w.heap.size w)
 have H : ((spec_l1In.f a0_0 0 1).bind fun t102 => (if t102 = true then ((spec_l10Plain.f k a0_1).bind fun t103 => (spec_DeedText.j0 k t103 a0_0 a0_1)) else (spec_DeedText.j0 k false a0_0 a0_1))) = some r := h
 clear h
 have HC2 := Asd.mk H
 clear H
 go_enter Try.func20, Try.ntmps20
 go_upto_region 1 with (first | ((with_reducible refine gate_dst (N := 1) rfl ?_); refine bxE ?hg (N := 1) ?hd (cs := #[.int .i64 a0_0, .string a0_1]) (t := 26) ?hr ?_; (case hd => rfl); (case hg => rfl); (case hr => first | (go_simp; done) | (go_simp; rfl)); intro gb101 hg w3 hbox hb; have n0_ := Asd.mk (bwP (by repeat (with_reducible first | exact HB.out | apply bwA | apply bwN | apply bwD)) hb); have n1_ := Asd.mk (hbox); have n2_ := Asd.mk ((by rw [hg]; exact (below_size (by repeat (with_reducible first | exact HB.out | apply bwA | apply bwN | apply bwD))) : w.heap.size ≤ gb101)); have n3_ := Asd.mk ((by rw [hg]; exact (below_size (by repeat (with_reducible first | exact HB.out | apply bwA | apply bwN | apply bwD))) : w.heap.size ≤ gb101)); clear HB; have HB := n0_; have BK101 := n1_; have GW101 := n2_; have GE101 := n3_; clear n0_ n1_ n2_ n3_; clear hb hbox hg))
 (try simp only [Act.put, List.setIfInBounds_toArray, List.set_cons_zero, List.set_cons_succ])
 go_cut [3] (fun v3 wc => ∃ (kq : Nat) (x3_1 : Bool), v3 = .bool x3_1 ∧ Asd (spec_DeedText.j0 kq x3_1 a0_0 a0_1 = some r) ∧ Asd (kq ≤ k) ∧ Asd (wc.heap[gb101]? = some (.cells #[.int .i64 a0_0, .string a0_1] 26 (0, 0))) ∧ Asd (Below w.heap.size w wc))
 case first =>
  have H := HC2.out
  clear HC2
  replace H := Option.bind_eq_some_iff.mp H
  obtain ⟨t102, A40, H⟩ := H
  try dsimp only at H
  have A4 := Asd.mk A40
  clear A40
  by_cases c5 : t102 = true
  ·subst c5
   rw [if_pos rfl] at H
   replace H := Option.bind_eq_some_iff.mp H
   obtain ⟨t103, A60, H⟩ := H
   try dsimp only at H
   have A6 := Asd.mk A60
   clear A60
   have H' := Asd.mk H
   clear H
   have hcz7_0 : w3.cell? ⟨gb101, 0, none⟩ = some (.int .i64 a0_0) := (bkC BK101.out 0).trans rfl
   have hcz7_1 : w3.cell? ⟨gb101, 1, none⟩ = some (.string a0_1) := (bkC BK101.out 1).trans rfl
   have hfz7_0 := bkF BK101.out 0
   have hfz7_1 := bkF BK101.out 1
   go_wp2_with (first | ((with_reducible refine gate_callee (f := 72) rfl ?_); refine gsM (some 6) rfl rfl Try.func72 (by kernel_rfl) rfl #[.int .i64 a0_0, .int .i64 0, .int .i64 1] rfl ?_; (with_reducible refine (spec_l1In.calls a0_0 0 1 true _ A4.out).mono ?_); rintro e w' ⟨rfl, ⟨nd, rfl⟩⟩; refine ⟨_, rfl, ?_⟩) | (go_at_call 73; (with_reducible refine (spec_l10Plain.calls k a0_1 t103 _ A6.out).mono ?_); rintro e w' ⟨rfl, ⟨nd, rfl⟩⟩))
   go_meet
   case rel => exact ⟨_, (t103), (by first | rfl | (simp; done) | (simp [*]; done)), H', ⟨by first | omega | exact Nat.le_refl _⟩, ⟨by (with_reducible repeat first | apply bkN | apply bkD | apply bkA); exact BK101.out⟩, ⟨by repeat (with_reducible first | exact HB.out | apply bwA | apply bwN | apply bwD | refine bwS ?_ GE101.out)⟩⟩
  ·replace c5 := Bool.eq_false_iff.mpr c5
   subst c5
   rw [if_neg (show ¬ (false = true) by decide)] at H
   have H' := Asd.mk H
   clear H
   have hcz8_0 : w3.cell? ⟨gb101, 0, none⟩ = some (.int .i64 a0_0) := (bkC BK101.out 0).trans rfl
   have hcz8_1 : w3.cell? ⟨gb101, 1, none⟩ = some (.string a0_1) := (bkC BK101.out 1).trans rfl
   have hfz8_0 := bkF BK101.out 0
   have hfz8_1 := bkF BK101.out 1
   go_wp2_with (first | ((with_reducible refine gate_callee (f := 72) rfl ?_); refine gsM (some 6) rfl rfl Try.func72 (by kernel_rfl) rfl #[.int .i64 a0_0, .int .i64 0, .int .i64 1] rfl ?_; (with_reducible refine (spec_l1In.calls a0_0 0 1 false _ A4.out).mono ?_); rintro e w' ⟨rfl, ⟨nd, rfl⟩⟩; refine ⟨_, rfl, ?_⟩))
   go_meet
   case rel => exact ⟨_, (false), (by first | rfl | (simp; done) | (simp [*]; done)), H', ⟨by first | omega | exact Nat.le_refl _⟩, ⟨by (with_reducible repeat first | apply bkN | apply bkD | apply bkA); exact BK101.out⟩, ⟨by repeat (with_reducible first | exact HB.out | apply bwA | apply bwN | apply bwD | refine bwS ?_ GE101.out)⟩⟩
 case rest =>
  clear HC2
  obtain ⟨kq, x3_1, rfl, HA, HJ1, BK101, HB⟩ := hcut
  cases kq with
  | zero => exact absurd HA.out (by simp [spec_DeedText.j0])
  | succ kj1 =>
   have H := HA.out
   clear HA
   simp only [spec_DeedText.j0] at H
   by_cases c9 : x3_1 = true
   ·subst c9
    rw [if_pos rfl] at H
    obtain ⟨y104, hy104⟩ : ∃ y_ : List ByteArray, y_ = (([(⟨#[102, 105, 114, 115, 116]⟩ : ByteArray), (⟨#[97, 108, 108]⟩ : ByteArray)] : List ByteArray)) := ⟨_, rfl⟩
    replace H : (if 0 ≤ a0_0 then (if a0_0 < (y104.length : Int) then (if (rdOf ByteArray.empty y104 a0_0).size + 1 ≤ 9223372036854775807 then (if ((rdOf ByteArray.empty y104 a0_0) ++ (⟨#[32]⟩ : ByteArray)).size + a0_1.size ≤ 9223372036854775807 then (some (((rdOf ByteArray.empty y104 a0_0) ++ (⟨#[32]⟩ : ByteArray)) ++ a0_1)) else (none)) else (none)) else (none)) else (none)) = some r := by first | (rw [hy104]; with_reducible exact H) | (have H2_ := (Option.bind_some _ _).symm.trans H; rw [hy104]; with_reducible exact H2_) | (have H2_ := (Option.bind_some _ _).symm.trans H; with_reducible exact H2_) | with_reducible exact H | (rw [hy104]; exact H) | exact H
    have Ny104 := Asd.mk hy104
    clear hy104
    by_cases c10 : 0 ≤ a0_0
    ·rw [if_pos c10] at H
     have c10b0 : decide (0 ≤ a0_0) = true := decide_eq_true c10
     clear c10
     by_cases c11 : a0_0 < (y104.length : Int)
     ·rw [if_pos c11] at H
      have c11b0 : decide (a0_0 < (y104.length : Int)) = true := decide_eq_true c11
      clear c11
      by_cases c12 : (rdOf ByteArray.empty y104 a0_0).size + 1 ≤ 9223372036854775807
      ·rw [if_pos c12] at H
       have c12b0 := eq_true c12
       have c12b1 : decide ((rdOf ByteArray.empty y104 a0_0).size + 1 ≤ 9223372036854775807) = true := decide_eq_true c12
       try have c12b2 : (9223372036854775807 < (rdOf ByteArray.empty y104 a0_0).size + 1) = False := eq_false (Nat.not_lt.2 c12)
       by_cases c13 : ((rdOf ByteArray.empty y104 a0_0) ++ (⟨#[32]⟩ : ByteArray)).size + a0_1.size ≤ 9223372036854775807
       ·rw [if_pos c13] at H
        have c13b0 := eq_true c13
        have c13b1 : decide (((rdOf ByteArray.empty y104 a0_0) ++ (⟨#[32]⟩ : ByteArray)).size + a0_1.size ≤ 9223372036854775807) = true := decide_eq_true c13
        try have c13b2 : (9223372036854775807 < ((rdOf ByteArray.empty y104 a0_0) ++ (⟨#[32]⟩ : ByteArray)).size + a0_1.size) = False := eq_false (Nat.not_lt.2 c13)
        try have c13b8 : (9223372036854775807 < (rdOf ByteArray.empty y104 a0_0).size + 1 + a0_1.size) = False := eq_false (by have h_ := c13; (repeat rw [ByteArray.size_append] at h_); exact Nat.not_lt.2 h_)
        obtain rfl := Option.some.inj H
        try go_wp2
        have pi107 : (0 ≤ (a0_0 : Int)) = True := eq_true (odt)
        have qi107 : (a0_0 < (y104.length : Int)) = True := eq_true (odt)
        have n0_ := Asd.mk (bkD BK101.out)
        have n1_ := Asd.mk (bwD HB.out)
        clear BK101
        clear HB
        have BK101 := n0_
        have HB := n1_
        clear n0_ n1_
        refine start_ (n := 10) (S := fun w' => w'.cell? ⟨gb101, 0, none⟩ = some (.int .i64 a0_0) ∧ w'.cell? ⟨gb101, 1, none⟩ = some (.string a0_1)) (ds := []) #[false, false, false, false, false, false, false, false, false, false] (by kernel_rfl) rfl rfl ⟨(bkC BK101.out 0).trans rfl, (bkC BK101.out 1).trans rfl⟩ (fun hHeld => ?_); refine with_tabW spec_DeedText.tab2 spec_DeedText.bits2 (fun HT_ HW_ => ?_)
        generalize wc.drew = w14 at BK101 HB hHeld ⊢
        refine pure_ (i := 1) (N := some 13) (v := ?_) (a' := ?_) #[false, true, false, false, false, false, false, false, false, false] rfl rfl (any_of HT_.out (by kernel_rfl)) (fun _ _ _ h => h) (Or.inl ⟨by rfl, ?_⟩) ?_ ?_
        rotate_left
        ·intro w'
         go_simp
         with_reducible rfl
        rotate_left
        ·simp only [Act.put, List.setIfInBounds_toArray, List.set_cons_zero, List.set_cons_succ, i64_w, i32_w]
         rfl
        refine pure_ (i := 6) (N := some 18) (v := ?_) (a' := ?_) #[false, true, false, false, false, false, true, false, false, false] rfl rfl (any_of HT_.out (by kernel_rfl)) (fun _ _ _ h => h) (Or.inl ⟨by rfl, ?_⟩) ?_ ?_
        rotate_left
        ·intro w'
         go_simp
         with_reducible rfl
        rotate_left
        ·simp only [Act.put, List.setIfInBounds_toArray, List.set_cons_zero, List.set_cons_succ, i64_w, i32_w]
         rfl
        refine take_ (i := 2) (N := some 14) (v := ?_) (a' := ?_) #[false, true, true, false, false, false, true, false, false, false] rfl rfl (take_ofW HT_.out HW_.out (by kernel_rfl)) (fun _ _ _ h => h) (Or.inl ⟨by rfl, ?_⟩) hHeld ?_ ?_
        rotate_left
        ·rintro w' ⟨s0, s1⟩
         go_simp
         with_reducible rfl
        rotate_left
        ·simp only [Act.put, List.setIfInBounds_toArray, List.set_cons_zero, List.set_cons_succ, i64_w, i32_w]
         rfl
        refine take_ (i := 7) (N := some 19) (v := ?_) (a' := ?_) #[false, true, true, false, false, false, true, true, false, false] rfl rfl (take_ofW HT_.out HW_.out (by kernel_rfl)) (fun _ _ _ h => h) (Or.inl ⟨by rfl, ?_⟩) hHeld ?_ ?_
        rotate_left
        ·rintro w' ⟨s0, s1⟩
         go_simp
         with_reducible rfl
        rotate_left
        ·simp only [Act.put, List.setIfInBounds_toArray, List.set_cons_zero, List.set_cons_succ, i64_w, i32_w]
         rfl
        refine one_ (i := 0) (N := some 12) #[true, true, true, false, false, false, true, true, false, false] rfl rfl (one_of HT_.out (by kernel_rfl)) (by decide) (fun K hK => ?_)
        refine Kd.R_lit_step Kd.string _ 9 ?hg (N := 12) ?hd (xs := ([(⟨#[102, 105, 114, 115, 116]⟩ : ByteArray), (⟨#[97, 108, 108]⟩ : ByteArray)] : List ByteArray)) (inner := [.string (⟨#[102, 105, 114, 115, 116]⟩ : ByteArray), .string (⟨#[97, 108, 108]⟩ : ByteArray)]) (ok := fun _ => True) (okp := fun _ => True) ?hr ?hp (fun _ hk => hk) trivial (Below.refl _ _) (Nat.le_refl _) (by simp) ?_; (case hd => rfl); (case hg => rfl); (case hr => first | (go_simp; done) | (go_simp; rfl)); (case hp => exact (Reps.one (show Kd.M Kd.string _ _ _ (⟨#[102, 105, 114, 115, 116]⟩ : ByteArray) [.string (⟨#[102, 105, 114, 115, 116]⟩ : ByteArray)] from rfl) (Reps.one (show Kd.M Kd.string _ _ _ (⟨#[97, 108, 108]⟩ : ByteArray) [.string (⟨#[97, 108, 108]⟩ : ByteArray)] from rfl) (Reps.none _ _))))
        intro v105 w15 ho16 hb hg_ hnew_
        clear hg_ hnew_
        (first | rw [← Ny104.out] at ho16 | (simp only [Int.reduceToNat] at ho16; rw [← Ny104.out] at ho16))
        have n0_ := Asd.mk (Kd.R_lower ho16 (below_size (by repeat (with_reducible first | exact HB.out | apply bwA | apply bwN | apply bwD | refine bwS ?_ GE101.out))))
        have n1_ := Asd.mk (bkB (g := gb101) (o := .cells #[.int .i64 a0_0, .string a0_1] 26 (0, 0)) (by (with_reducible repeat first | apply bkN | apply bkD | apply bkA); exact BK101.out) hb)
        have n2_ := Asd.mk (bwP (by repeat (with_reducible first | exact HB.out | apply bwA | apply bwN | apply bwD | refine bwS ?_ GE101.out)) hb)
        clear BK101
        clear HB
        have HO106 := n0_
        have BK101 := n1_
        have HB := n2_
        clear n0_ n1_ n2_
        clear hb ho16
        obtain ⟨Ao17, co17, eo17⟩ := Kd.R_slice HO106.out
        subst eo17
        obtain ⟨ado17, fo17, _⟩ := Kd.at_string (Kd.R_reads' HO106.out).2.2 0 (by decide) (by rw [Ny104.out]; simp)
        cases fo17
        refine hK.out _ _ ⟨(bkC BK101.out 0).trans rfl, (bkC BK101.out 1).trans rfl⟩ (fun hHeld => ?_)
        clear hK K
        refine norm_ (a' := ?_) ?_ ?_
        rotate_left
        ·show Act.put _ (some 12) _ = _
         simp only [Act.put, List.setIfInBounds_toArray, List.set_cons_zero, List.set_cons_succ, i64_w, i32_w]
         rfl
        refine pure_ (i := 3) (N := some 15) (v := ?_) (a' := ?_) #[true, true, true, true, false, false, true, true, false, false] rfl rfl (any_of HT_.out (by kernel_rfl)) (fun _ _ _ h => h) (Or.inl ⟨by rfl, ?_⟩) ?_ ?_
        rotate_left
        ·intro w'
         go_simp
         with_reducible rfl
        rotate_left
        ·simp only [Act.put, List.setIfInBounds_toArray, List.set_cons_zero, List.set_cons_succ, i64_w, i32_w]
         rfl
        refine one_ (i := 4) (N := some 16) #[true, true, true, true, true, false, true, true, false, false] rfl rfl (one_of HT_.out (by kernel_rfl)) (by decide) (fun K hK => ?_)
        (have p107 : 0 ≤ (a0_0 : Int) := odt; have q107 : a0_0 < (y104.length : Int) := odt; obtain ⟨ad107, e107, hx107_0⟩ := Kd.at_string (Kd.R_reads' HO106.out).2.2 a0_0 p107 q107; obtain rfl : ado17 = ad107 := (by injection e107))
        refine value_ (w1 := ?_) (v := ?_) (by rfl) rfl ?_ ?_
        rotate_left 2
        ·go_simp
         constructor
         ·rfl
         ·rfl
        clear hx107_0
        refine hK.out _ _ ⟨(bkC BK101.out 0).trans rfl, (bkC BK101.out 1).trans rfl⟩ (fun hHeld => ?_)
        clear hK K
        refine norm_ (a' := ?_) ?_ ?_
        rotate_left
        ·show Act.put _ (some 16) _ = _
         simp only [Act.put, List.setIfInBounds_toArray, List.set_cons_zero, List.set_cons_succ, i64_w, i32_w]
         rfl
        refine pure_ (i := 5) (N := some 17) (v := ?_) (a' := ?_) #[true, true, true, true, true, true, true, true, false, false] rfl rfl (any_of HT_.out (by kernel_rfl)) (fun _ _ _ h => h) (Or.inl ⟨by rfl, ?_⟩) ?_ ?_
        rotate_left
        ·intro w'
         go_simp
         with_reducible rfl
        rotate_left
        ·simp only [Act.put, List.setIfInBounds_toArray, List.set_cons_zero, List.set_cons_succ, i64_w, i32_w]
         rfl
        refine pure_ (i := 8) (N := some 20) (v := ?_) (a' := ?_) #[true, true, true, true, true, true, true, true, true, false] rfl rfl (any_of HT_.out (by kernel_rfl)) (fun _ _ _ h => h) (Or.inl ⟨by rfl, ?_⟩) ?_ ?_
        rotate_left
        ·intro w'
         go_simp
         with_reducible rfl
        rotate_left
        ·simp only [Act.put, List.setIfInBounds_toArray, List.set_cons_zero, List.set_cons_succ, i64_w, i32_w]
         rfl
        refine pure_ (i := 9) (N := some 2) (v := ?_) (a' := ?_) #[true, true, true, true, true, true, true, true, true, true] rfl rfl (any_of HT_.out (by kernel_rfl)) (fun _ _ _ h => h) (Or.inl ⟨by rfl, ?_⟩) ?_ ?_
        rotate_left
        ·intro w'
         go_simp
         with_reducible rfl
        rotate_left
        ·simp only [Act.put, List.setIfInBounds_toArray, List.set_cons_zero, List.set_cons_succ, i64_w, i32_w]
         rfl
        refine done_ (done_of HT_.out (by kernel_rfl)) ?_
        try go_wp2
        go_ret
        exact ⟨by first | rfl | (simp [errW_none, errW_some] <;> rfl) | (simp [*, errW_none, errW_some] <;> rfl), by repeat (with_reducible first | exact HB.out | apply bwA | apply bwN | apply bwD | refine bwS ?_ GE101.out)⟩
       ·rw [if_neg c13] at H
        exact absurd H (by simp)
      ·rw [if_neg c12] at H
       exact absurd H (by simp)
     ·rw [if_neg c11] at H
      exact absurd H (by simp)
    ·rw [if_neg c10] at H
     exact absurd H (by simp)
   ·replace c9 := Bool.eq_false_iff.mpr c9
    subst c9
    rw [if_neg (show ¬ (false = true) by decide)] at H
    by_cases c18 : (a0_0 == 2 && (a0_1.toList == ([] : List UInt8))) = true
    ·rw [if_pos c18] at H
     have c18b0 : (a0_0 == 2 && (a0_1.toList == ([] : List UInt8))) = true := c18
     try have c18b7 : (a0_0 == 2 && a0_1.toList.isEmpty) = true := by have h_ := c18b0; (repeat rw [Hof.isEmpty_beq]); exact h_
     (try (have c18b1 : decide (a0_0 = 2 && (a0_1.toList == ([] : List UInt8))) = true := by simpa using c18))
     (try (have c18b2 : (a0_0 == 2 && (a0_1.toList == ([] : List UInt8))) = true := by simpa using c18))
     clear c18
     obtain rfl := Option.some.inj H
     have hcz19_0 : wc.cell? ⟨gb101, 0, none⟩ = some (.int .i64 a0_0) := (bkC BK101.out 0).trans rfl
     have hcz19_1 : wc.cell? ⟨gb101, 1, none⟩ = some (.string a0_1) := (bkC BK101.out 1).trans rfl
     have hfz19_0 := bkF BK101.out 0
     have hfz19_1 := bkF BK101.out 1
     go_wp2
     go_ret
     exact ⟨by first | rfl | (simp [errW_none, errW_some] <;> rfl) | (simp [*, errW_none, errW_some] <;> rfl), by repeat (with_reducible first | exact HB.out | apply bwA | apply bwN | apply bwD | refine bwS ?_ GE101.out)⟩
    ·rw [if_neg c18] at H
     have c18b0 : (a0_0 == 2 && (a0_1.toList == ([] : List UInt8))) = false := by simpa using c18
     try have c18b7 : (a0_0 == 2 && a0_1.toList.isEmpty) = false := by have h_ := c18b0; (repeat rw [Hof.isEmpty_beq]); exact h_
     (try (have c18b1 : decide (a0_0 = 2 && (a0_1.toList == ([] : List UInt8))) = false := by simpa using c18))
     (try (have c18b2 : (a0_0 == 2 && (a0_1.toList == ([] : List UInt8))) = false := by simpa using c18))
     (try (have c18b3 : ¬ (a0_0 = 2 && (a0_1.toList == ([] : List UInt8))) := by simpa using c18))
     clear c18
     obtain rfl := Option.some.inj H
     have hcz20_0 : wc.cell? ⟨gb101, 0, none⟩ = some (.int .i64 a0_0) := (bkC BK101.out 0).trans rfl
     have hcz20_1 : wc.cell? ⟨gb101, 1, none⟩ = some (.string a0_1) := (bkC BK101.out 1).trans rfl
     have hfz20_0 := bkF BK101.out 0
     have hfz20_1 := bkF BK101.out 1
     go_wp2
     go_ret
     exact ⟨by first | rfl | (simp [errW_none, errW_some] <;> rfl) | (simp [*, errW_none, errW_some] <;> rfl), by repeat (with_reducible first | exact HB.out | apply bwA | apply bwN | apply bwD | refine bwS ?_ GE101.out)⟩

/-! ### impl_isPrintable: function 117 -/
def impl_isPrintable.l0 : Nat → ByteArray → Int → Int → Option (Bool)
 | 0, _, _, _ => none
 | k + 1, x0, x5, x6 => if x6 < x5 then (if 0 ≤ x6 then (if x6 < (x0.size : Int) then (if (bt x0 x6) < 32 then (some false) else (if (bt x0 x6) > 126 then (some false) else (impl_isPrintable.l0 k x0 x5 (wrap64 (x6 + 1))))) else (none)) else (none)) else (some true)
def impl_isPrintable.f (k : Nat) (a0 : ByteArray) : Option (Bool) := impl_isPrintable.l0 k a0 (a0.size : Int) 0
theorem impl_isPrintable.mono_l : ∀ k, (∀ y0 y1 y2, LeO (impl_isPrintable.l0 k y0 y1 y2) (impl_isPrintable.l0 (k + 1) y0 y1 y2))
 | 0 => fun _ _ _ r h => by simp [impl_isPrintable.l0] at h
 | k + 1 => by
  have ih0 := impl_isPrintable.mono_l k
  ·intro y0 y1 y2
   unfold impl_isPrintable.l0
   repeat' first
   | (with_reducible exact ih0 _ _ _)
   | (with_reducible exact LeO.refl _)
   | (with_reducible exact LeO.none _)
   | (with_reducible refine LeO.ite ?_ ?_)
   | (with_reducible refine LeO.bind ?_ (fun _ => ?_))
   | refine LeO.ite ?_ ?_
   | refine LeO.bind ?_ (fun _ => ?_)
theorem impl_isPrintable.mono : ∀ a0 k, LeO (impl_isPrintable.f k a0) (impl_isPrintable.f (k + 1) a0) := by
 intro a0 k
 have ih0 := impl_isPrintable.mono_l k
 unfold impl_isPrintable.f
 repeat' first
   | (with_reducible exact ih0 _ _ _)
   | (with_reducible exact LeO.refl _)
   | (with_reducible exact LeO.none _)
   | (with_reducible refine LeO.ite ?_ ?_)
   | (with_reducible refine LeO.bind ?_ (fun _ => ?_))
   | refine LeO.ite ?_ ?_
   | refine LeO.bind ?_ (fun _ => ?_)
set_option maxHeartbeats 8000000 in
set_option maxRecDepth 100000 in
theorem impl_isPrintable.calls (k : Nat) (a0 : ByteArray) (r : Bool) (w : World) (h : impl_isPrintable.f k a0 = some r) :
  Calls Try.prog 117 #[.string a0] w fun e w' => e = .returned (.bool r) ∧ Drawn0 w w' := by
 have H : (impl_isPrintable.l0 k a0 (a0.size : Int) 0) = some r := h
 clear h
 have H' := Asd.mk H
 clear H
 go_enter Try.func117, Try.ntmps117
 go_wp2
 go_loopg [6] k (fun kq v6 w' => ∃ (x6_1 : Int), v6 = .int .i64 x6_1 ∧ Asd (impl_isPrintable.l0 kq a0 (a0.size : Int) x6_1 = some r) ∧ Asd (kq ≤ k) ∧ Drawn0 w w')
 case atStart => exact ⟨(0), (by first | rfl | (simp; done) | (simp [*]; done)), H', ⟨Nat.le_refl _⟩, by repeat (first | exact Drawn0.refl _ | apply Drawn0.step)⟩
 case round =>
  clear H'
  obtain ⟨x6_1, rfl, HA, HK1, ⟨m1, rfl⟩⟩ := hrel
  cases gk with
  | zero => exact absurd HA.out (by simp [impl_isPrintable.l0])
  | succ k1 =>
   have H := HA.out
   clear HA
   simp only [impl_isPrintable.l0] at H
   by_cases c2 : x6_1 < (a0.size : Int)
   ·rw [if_pos c2] at H
    have c2b0 : decide (x6_1 < (a0.size : Int)) = true := decide_eq_true c2
    clear c2
    by_cases c3 : 0 ≤ x6_1
    ·rw [if_pos c3] at H
     have c3b0 : decide (0 ≤ x6_1) = true := decide_eq_true c3
     clear c3
     by_cases c4 : x6_1 < (a0.size : Int)
     ·rw [if_pos c4] at H
      have c4b0 : decide (x6_1 < (a0.size : Int)) = true := decide_eq_true c4
      clear c4
      by_cases c6 : (bt a0 x6_1) < 32
      ·rw [if_pos c6] at H
       have c6b0 : decide ((bt a0 x6_1) < 32) = true := decide_eq_true c6
       clear c6
       obtain rfl := Option.some.inj H
       have p5 : 0 ≤ (x6_1 : Int) := odt
       have q5 : x6_1 < (a0.size : Int) := odt
       have hx5 := bt_at a0 x6_1
       replace p5 := eq_true p5
       replace q5 := eq_true q5
       go_wp2
       go_ret
       exact ⟨by first | rfl | (simp; done) | (simp [*]; done), by repeat (first | exact Drawn0.refl _ | apply Drawn0.step)⟩
      ·rw [if_neg c6] at H
       have c6b0 : decide ((bt a0 x6_1) < 32) = false := decide_eq_false c6
       clear c6
       by_cases c8 : (bt a0 x6_1) > 126
       ·rw [if_pos c8] at H
        have c8b0 : decide (126 < (bt a0 x6_1)) = true := decide_eq_true c8
        clear c8
        obtain rfl := Option.some.inj H
        have p5 : 0 ≤ (x6_1 : Int) := odt
        have q5 : x6_1 < (a0.size : Int) := odt
        have hx5 := bt_at a0 x6_1
        replace p5 := eq_true p5
        replace q5 := eq_true q5
        have p7 : 0 ≤ (x6_1 : Int) := odt
        have q7 : x6_1 < (a0.size : Int) := odt
        have hx7 := bt_at a0 x6_1
        replace p7 := eq_true p7
        replace q7 := eq_true q7
        go_wp2
        go_ret
        exact ⟨by first | rfl | (simp; done) | (simp [*]; done), by repeat (first | exact Drawn0.refl _ | apply Drawn0.step)⟩
       ·rw [if_neg c8] at H
        have c8b0 : decide (126 < (bt a0 x6_1)) = false := decide_eq_false c8
        clear c8
        have H' := Asd.mk H
        clear H
        have p5 : 0 ≤ (x6_1 : Int) := odt
        have q5 : x6_1 < (a0.size : Int) := odt
        have hx5 := bt_at a0 x6_1
        replace p5 := eq_true p5
        replace q5 := eq_true q5
        have p7 : 0 ≤ (x6_1 : Int) := odt
        have q7 : x6_1 < (a0.size : Int) := odt
        have hx7 := bt_at a0 x6_1
        replace p7 := eq_true p7
        replace q7 := eq_true q7
        go_wp2
        go_roundg k1
        case measure => have := HK1.out; omega
        case rel => exact ⟨(wrap64 (x6_1 + 1)), (by first | rfl | (simp; done) | (simp [*]; done)), H', ⟨by have := HK1.out; omega⟩, by repeat (first | exact Drawn0.refl _ | apply Drawn0.step)⟩
     ·rw [if_neg c4] at H
      exact absurd H (by simp)
    ·rw [if_neg c3] at H
     exact absurd H (by simp)
   ·rw [if_neg c2] at H
    have c2b0 : decide (x6_1 < (a0.size : Int)) = false := decide_eq_false c2
    clear c2
    obtain rfl := Option.some.inj H
    go_wp2
    go_ret
    exact ⟨by first | rfl | (simp; done) | (simp [*]; done), by repeat (first | exact Drawn0.refl _ | apply Drawn0.step)⟩

/-! ### impl_deedText: function 74 -/
def impl_deedText.j0 : Nat → Bool → Int → ByteArray → Option (ByteArray)
 | 0, _, _, _ => none
 | k + 1, x7, x109000, x109001 => if x7 = true then (some (⟨#[]⟩ : ByteArray)) else (if x109000 = 0 then (if 6 + x109001.size ≤ 9223372036854775807 then (some ((⟨#[102, 105, 114, 115, 116, 32]⟩ : ByteArray) ++ x109001)) else (none)) else (if x109000 = 1 then (if 4 + x109001.size ≤ 9223372036854775807 then (some ((⟨#[97, 108, 108, 32]⟩ : ByteArray) ++ x109001)) else (none)) else (some (⟨#[]⟩ : ByteArray))))
def impl_deedText.f (k : Nat) (a0_0 : Int) (a0_1 : ByteArray) : Option (ByteArray) := if (a0_0 == 2 && (a0_1.toList == ([] : List UInt8))) = true then (some (⟨#[98, 97, 99, 107]⟩ : ByteArray)) else (if a0_1.toList = ([] : List UInt8) then (impl_deedText.j0 k true a0_0 a0_1) else ((impl_isPrintable.f k a0_1).bind fun t109 => (impl_deedText.j0 k (!t109) a0_0 a0_1)))
theorem impl_deedText.mono_l : ∀ k, (∀ y0 y1 y2, LeO (impl_deedText.j0 k y0 y1 y2) (impl_deedText.j0 (k + 1) y0 y1 y2))
 | 0 => fun _ _ _ r h => by simp [impl_deedText.j0] at h
 | k + 1 => by
  have ih0 := impl_deedText.mono_l k
  ·intro y0 y1 y2
   unfold impl_deedText.j0
   repeat' first
   | (with_reducible exact ih0 _ _ _)
   | (with_reducible exact impl_isPrintable.mono _ _)
   | (with_reducible exact LeO.refl _)
   | (with_reducible exact LeO.none _)
   | (with_reducible refine LeO.ite ?_ ?_)
   | (with_reducible refine LeO.bind ?_ (fun _ => ?_))
   | refine LeO.ite ?_ ?_
   | refine LeO.bind ?_ (fun _ => ?_)
theorem impl_deedText.mono : ∀ a0 a1 k, LeO (impl_deedText.f k a0 a1) (impl_deedText.f (k + 1) a0 a1) := by
 intro a0 a1 k
 have ih0 := impl_deedText.mono_l k
 unfold impl_deedText.f
 repeat' first
   | (with_reducible exact ih0 _ _ _)
   | (with_reducible exact impl_isPrintable.mono _ _)
   | (with_reducible exact LeO.refl _)
   | (with_reducible exact LeO.none _)
   | (with_reducible refine LeO.ite ?_ ?_)
   | (with_reducible refine LeO.bind ?_ (fun _ => ?_))
   | refine LeO.ite ?_ ?_
   | refine LeO.bind ?_ (fun _ => ?_)
set_option maxHeartbeats 8000000 in
set_option maxRecDepth 100000 in
theorem impl_deedText.calls (k : Nat) (a0_0 : Int) (a0_1 : ByteArray) (r : ByteArray) (w : World) (h : impl_deedText.f k a0_0 a0_1 = some r) :
  Calls Try.prog 74 #[.agg #[.int .i64 a0_0, .string a0_1]] w fun e w' => e = .returned (.string r) ∧ Below w.heap.size w w' := by
 have hu26 := Try.underlying26
 have HB := Asd.mk (Below.refl w.heap.size w)
 have H : (if (a0_0 == 2 && (a0_1.toList == ([] : List UInt8))) = true then (some (⟨#[98, 97, 99, 107]⟩ : ByteArray)) else (if a0_1.toList = ([] : List UInt8) then (impl_deedText.j0 k true a0_0 a0_1) else ((impl_isPrintable.f k a0_1).bind fun t109 => (impl_deedText.j0 k (!t109) a0_0 a0_1)))) = some r := h
 clear h
 by_cases c2 : (a0_0 == 2 && (a0_1.toList == ([] : List UInt8))) = true
 ·rw [if_pos c2] at H
  have c2b0 : (a0_0 == 2 && (a0_1.toList == ([] : List UInt8))) = true := c2
  try have c2b7 : (a0_0 == 2 && a0_1.toList.isEmpty) = true := by have h_ := c2b0; (repeat rw [Hof.isEmpty_beq]); exact h_
  (try (have c2b1 : decide (a0_0 = 2 && (a0_1.toList == ([] : List UInt8))) = true := by simpa using c2))
  (try (have c2b2 : (a0_0 == 2 && (a0_1.toList == ([] : List UInt8))) = true := by simpa using c2))
  clear c2
  obtain rfl := Option.some.inj H
  go_enter Try.func74, Try.ntmps74
  go_wp2_with (first | ((with_reducible refine gate_dst (N := 1) rfl ?_); refine bxE ?hg (N := 1) ?hd (cs := #[.int .i64 a0_0, .string a0_1]) (t := 26) ?hr ?_; (case hd => rfl); (case hg => rfl); (case hr => first | (go_simp; done) | (go_simp; rfl)); intro gb108 hg w3 hbox hb; have n0_ := Asd.mk (bwP (by repeat (with_reducible first | exact HB.out | apply bwA | apply bwN | apply bwD)) hb); have n1_ := Asd.mk (hbox); have n2_ := Asd.mk ((by rw [hg]; exact (below_size (by repeat (with_reducible first | exact HB.out | apply bwA | apply bwN | apply bwD))) : w.heap.size ≤ gb108)); have n3_ := Asd.mk ((by rw [hg]; exact (below_size (by repeat (with_reducible first | exact HB.out | apply bwA | apply bwN | apply bwD))) : w.heap.size ≤ gb108)); clear HB; have HB := n0_; have BK108 := n1_; have GW108 := n2_; have GE108 := n3_; clear n0_ n1_ n2_ n3_; clear hb hbox hg; have hcz4_0 : w3.cell? ⟨gb108, 0, none⟩ = some (.int .i64 a0_0) := (bkC BK108.out 0).trans rfl; have hcz4_1 : w3.cell? ⟨gb108, 1, none⟩ = some (.string a0_1) := (bkC BK108.out 1).trans rfl; have hfz4_0 := bkF BK108.out 0; have hfz4_1 := bkF BK108.out 1))
  go_ret
  exact ⟨by first | rfl | (simp [errW_none, errW_some] <;> rfl) | (simp [*, errW_none, errW_some] <;> rfl), by repeat (with_reducible first | exact HB.out | apply bwA | apply bwN | apply bwD | refine bwS ?_ GE108.out)⟩
 ·rw [if_neg c2] at H
  have c2b0 : (a0_0 == 2 && (a0_1.toList == ([] : List UInt8))) = false := by simpa using c2
  try have c2b7 : (a0_0 == 2 && a0_1.toList.isEmpty) = false := by have h_ := c2b0; (repeat rw [Hof.isEmpty_beq]); exact h_
  (try (have c2b1 : decide (a0_0 = 2 && (a0_1.toList == ([] : List UInt8))) = false := by simpa using c2))
  (try (have c2b2 : (a0_0 == 2 && (a0_1.toList == ([] : List UInt8))) = false := by simpa using c2))
  (try (have c2b3 : ¬ (a0_0 = 2 && (a0_1.toList == ([] : List UInt8))) := by simpa using c2))
  clear c2
  have HC5 := Asd.mk H
  clear H
  go_enter Try.func74, Try.ntmps74
  go_upto_region 3 with (first | ((with_reducible refine gate_dst (N := 1) rfl ?_); refine bxE ?hg (N := 1) ?hd (cs := #[.int .i64 a0_0, .string a0_1]) (t := 26) ?hr ?_; (case hd => rfl); (case hg => rfl); (case hr => first | (go_simp; done) | (go_simp; rfl)); intro gb108 hg w6 hbox hb; have n0_ := Asd.mk (bwP (by repeat (with_reducible first | exact HB.out | apply bwA | apply bwN | apply bwD)) hb); have n1_ := Asd.mk (hbox); have n2_ := Asd.mk ((by rw [hg]; exact (below_size (by repeat (with_reducible first | exact HB.out | apply bwA | apply bwN | apply bwD))) : w.heap.size ≤ gb108)); have n3_ := Asd.mk ((by rw [hg]; exact (below_size (by repeat (with_reducible first | exact HB.out | apply bwA | apply bwN | apply bwD))) : w.heap.size ≤ gb108)); clear HB; have HB := n0_; have BK108 := n1_; have GW108 := n2_; have GE108 := n3_; clear n0_ n1_ n2_ n3_; clear hb hbox hg; have hcz7_0 : w6.cell? ⟨gb108, 0, none⟩ = some (.int .i64 a0_0) := (bkC BK108.out 0).trans rfl; have hcz7_1 : w6.cell? ⟨gb108, 1, none⟩ = some (.string a0_1) := (bkC BK108.out 1).trans rfl; have hfz7_0 := bkF BK108.out 0; have hfz7_1 := bkF BK108.out 1))
  (try simp only [Act.put, List.setIfInBounds_toArray, List.set_cons_zero, List.set_cons_succ])
  go_cut [7] (fun v7 wc => ∃ (kq : Nat) (x7_4 : Bool), v7 = .bool x7_4 ∧ Asd (impl_deedText.j0 kq x7_4 a0_0 a0_1 = some r) ∧ Asd (kq ≤ k) ∧ Asd (wc.heap[gb108]? = some (.cells #[.int .i64 a0_0, .string a0_1] 26 (0, 0))) ∧ Asd (Below w.heap.size w wc))
  case first =>
   have H := HC5.out
   clear HC5
   by_cases c8 : a0_1.toList = ([] : List UInt8)
   ·rw [if_pos c8] at H
    have c8b0 : (a0_1.toList == ([] : List UInt8)) = true := beq_iff_eq.mpr c8
    have c8b1 : (a0_1.toList != ([] : List UInt8)) = false := bne_eq_false_iff_eq.mpr c8
    clear c8
    (first | rw [c8b0] | (simp only [i64_w, i32_w]; rw [c8b0]) | skip)
    have H' := Asd.mk H
    clear H
    have hcz9_0 : w6.cell? ⟨gb108, 0, none⟩ = some (.int .i64 a0_0) := (bkC BK108.out 0).trans rfl
    have hcz9_1 : w6.cell? ⟨gb108, 1, none⟩ = some (.string a0_1) := (bkC BK108.out 1).trans rfl
    have hfz9_0 := bkF BK108.out 0
    have hfz9_1 := bkF BK108.out 1
    go_wp2
    go_meet
    case rel => exact ⟨_, (true), (by first | rfl | (simp; done) | (simp [*]; done)), H', ⟨by first | omega | exact Nat.le_refl _⟩, ⟨by (with_reducible repeat first | apply bkN | apply bkD | apply bkA); exact BK108.out⟩, ⟨by repeat (with_reducible first | exact HB.out | apply bwA | apply bwN | apply bwD | refine bwS ?_ GE108.out)⟩⟩
   ·rw [if_neg c8] at H
    have c8b0 : (a0_1.toList == ([] : List UInt8)) = false := beq_eq_false_iff_ne.mpr c8
    have c8b1 : (a0_1.toList != ([] : List UInt8)) = true := bne_iff_ne.mpr c8
    (first | rw [c8b0] | (simp only [i64_w, i32_w]; rw [c8b0]) | skip)
    replace H := Option.bind_eq_some_iff.mp H
    obtain ⟨t109, A100, H⟩ := H
    try dsimp only at H
    have A10 := Asd.mk A100
    clear A100
    have H' := Asd.mk H
    clear H
    have hcz11_0 : w6.cell? ⟨gb108, 0, none⟩ = some (.int .i64 a0_0) := (bkC BK108.out 0).trans rfl
    have hcz11_1 : w6.cell? ⟨gb108, 1, none⟩ = some (.string a0_1) := (bkC BK108.out 1).trans rfl
    have hfz11_0 := bkF BK108.out 0
    have hfz11_1 := bkF BK108.out 1
    go_wp2_with (first | (go_at_call 117; (with_reducible refine (impl_isPrintable.calls k a0_1 t109 _ A10.out).mono ?_); rintro e w' ⟨rfl, ⟨nd, rfl⟩⟩))
    go_meet
    case rel => exact ⟨_, (!t109), (by first | rfl | (simp; done) | (simp [*]; done)), H', ⟨by first | omega | exact Nat.le_refl _⟩, ⟨by (with_reducible repeat first | apply bkN | apply bkD | apply bkA); exact BK108.out⟩, ⟨by repeat (with_reducible first | exact HB.out | apply bwA | apply bwN | apply bwD | refine bwS ?_ GE108.out)⟩⟩
  case rest =>
   clear HC5
   obtain ⟨kq, x7_4, rfl, HA, HJ4, BK108, HB⟩ := hcut
   cases kq with
   | zero => exact absurd HA.out (by simp [impl_deedText.j0])
   | succ kj4 =>
    have H := HA.out
    clear HA
    simp only [impl_deedText.j0] at H
    by_cases c12 : x7_4 = true
    ·subst c12
     rw [if_pos rfl] at H
     obtain rfl := Option.some.inj H
     go_wp2
     go_ret
     exact ⟨by first | rfl | (simp [errW_none, errW_some] <;> rfl) | (simp [*, errW_none, errW_some] <;> rfl), by repeat (with_reducible first | exact HB.out | apply bwA | apply bwN | apply bwD | refine bwS ?_ GE108.out)⟩
    ·replace c12 := Bool.eq_false_iff.mpr c12
     subst c12
     rw [if_neg (show ¬ (false = true) by decide)] at H
     by_cases c13 : a0_0 = 0
     ·rw [if_pos c13] at H
      have c13b0 : (a0_0 == 0) = true := beq_iff_eq.mpr c13
      have c13b1 : (a0_0 != 0) = false := bne_eq_false_iff_eq.mpr c13
      clear c13
      by_cases c14 : 6 + a0_1.size ≤ 9223372036854775807
      ·rw [if_pos c14] at H
       have c14b0 := eq_true c14
       have c14b1 : decide (6 + a0_1.size ≤ 9223372036854775807) = true := decide_eq_true c14
       try have c14b2 : (9223372036854775807 < 6 + a0_1.size) = False := eq_false (Nat.not_lt.2 c14)
       obtain rfl := Option.some.inj H
       have hcz15_0 : wc.cell? ⟨gb108, 0, none⟩ = some (.int .i64 a0_0) := (bkC BK108.out 0).trans rfl
       have hcz15_1 : wc.cell? ⟨gb108, 1, none⟩ = some (.string a0_1) := (bkC BK108.out 1).trans rfl
       have hfz15_0 := bkF BK108.out 0
       have hfz15_1 := bkF BK108.out 1
       go_wp2
       go_ret
       exact ⟨by first | rfl | (simp [errW_none, errW_some] <;> rfl) | (simp [*, errW_none, errW_some] <;> rfl), by repeat (with_reducible first | exact HB.out | apply bwA | apply bwN | apply bwD | refine bwS ?_ GE108.out)⟩
      ·rw [if_neg c14] at H
       exact absurd H (by simp)
     ·rw [if_neg c13] at H
      have c13b0 : (a0_0 == 0) = false := beq_eq_false_iff_ne.mpr c13
      have c13b1 : (a0_0 != 0) = true := bne_iff_ne.mpr c13
      by_cases c16 : a0_0 = 1
      ·rw [if_pos c16] at H
       have c16b0 : (a0_0 == 1) = true := beq_iff_eq.mpr c16
       have c16b1 : (a0_0 != 1) = false := bne_eq_false_iff_eq.mpr c16
       clear c16
       by_cases c17 : 4 + a0_1.size ≤ 9223372036854775807
       ·rw [if_pos c17] at H
        have c17b0 := eq_true c17
        have c17b1 : decide (4 + a0_1.size ≤ 9223372036854775807) = true := decide_eq_true c17
        try have c17b2 : (9223372036854775807 < 4 + a0_1.size) = False := eq_false (Nat.not_lt.2 c17)
        obtain rfl := Option.some.inj H
        have hcz18_0 : wc.cell? ⟨gb108, 0, none⟩ = some (.int .i64 a0_0) := (bkC BK108.out 0).trans rfl
        have hcz18_1 : wc.cell? ⟨gb108, 1, none⟩ = some (.string a0_1) := (bkC BK108.out 1).trans rfl
        have hfz18_0 := bkF BK108.out 0
        have hfz18_1 := bkF BK108.out 1
        go_wp2
        go_ret
        exact ⟨by first | rfl | (simp [errW_none, errW_some] <;> rfl) | (simp [*, errW_none, errW_some] <;> rfl), by repeat (with_reducible first | exact HB.out | apply bwA | apply bwN | apply bwD | refine bwS ?_ GE108.out)⟩
       ·rw [if_neg c17] at H
        exact absurd H (by simp)
      ·rw [if_neg c16] at H
       have c16b0 : (a0_0 == 1) = false := beq_eq_false_iff_ne.mpr c16
       have c16b1 : (a0_0 != 1) = true := bne_iff_ne.mpr c16
       obtain rfl := Option.some.inj H
       have hcz19_0 : wc.cell? ⟨gb108, 0, none⟩ = some (.int .i64 a0_0) := (bkC BK108.out 0).trans rfl
       have hcz19_1 : wc.cell? ⟨gb108, 1, none⟩ = some (.string a0_1) := (bkC BK108.out 1).trans rfl
       have hfz19_0 := bkF BK108.out 0
       have hfz19_1 := bkF BK108.out 1
       go_wp2
       go_ret
       exact ⟨by first | rfl | (simp [errW_none, errW_some] <;> rfl) | (simp [*, errW_none, errW_some] <;> rfl), by repeat (with_reducible first | exact HB.out | apply bwA | apply bwN | apply bwD | refine bwS ?_ GE108.out)⟩

/-! ### impl_DeedText: function 22 -/
def impl_DeedText.f (k : Nat) (a0_0 : Int) (a0_1 : ByteArray) : Option (ByteArray) := (impl_deedText.f k a0_0 a0_1).bind fun t111 => (some t111)
theorem impl_DeedText.mono : ∀ a0 a1 k, LeO (impl_DeedText.f k a0 a1) (impl_DeedText.f (k + 1) a0 a1) := by
 intro a0 a1 k
 unfold impl_DeedText.f
 repeat' first
   | (with_reducible exact impl_deedText.mono _ _ _)
   | (with_reducible exact LeO.refl _)
   | (with_reducible exact LeO.none _)
   | (with_reducible refine LeO.ite ?_ ?_)
   | (with_reducible refine LeO.bind ?_ (fun _ => ?_))
   | refine LeO.ite ?_ ?_
   | refine LeO.bind ?_ (fun _ => ?_)
set_option maxHeartbeats 8000000 in
set_option maxRecDepth 100000 in
theorem impl_DeedText.calls (k : Nat) (a0_0 : Int) (a0_1 : ByteArray) (r : ByteArray) (w : World) (h : impl_DeedText.f k a0_0 a0_1 = some r) :
  Calls Try.prog 22 #[.agg #[.int .i64 a0_0, .string a0_1]] w fun e w' => e = .returned (.string r) ∧ Below w.heap.size w w' := by
 have hu26 := Try.underlying26
 have HB := Asd.mk (Below.refl w.heap.size w)
 have H : ((impl_deedText.f k a0_0 a0_1).bind fun t111 => (some t111)) = some r := h
 clear h
 replace H := Option.bind_eq_some_iff.mp H
 obtain ⟨t111, A20, H⟩ := H
 try dsimp only at H
 have A2 := Asd.mk A20
 clear A20
 obtain rfl := Option.some.inj H
 go_enter Try.func22, Try.ntmps22
 go_wp2_with (first | ((with_reducible refine gate_dst (N := 1) rfl ?_); refine bxE ?hg (N := 1) ?hd (cs := #[.int .i64 a0_0, .string a0_1]) (t := 26) ?hr ?_; (case hd => rfl); (case hg => rfl); (case hr => first | (go_simp; done) | (go_simp; rfl)); intro gb110 hg w3 hbox hb; have n0_ := Asd.mk (bwP (by repeat (with_reducible first | exact HB.out | apply bwA | apply bwN | apply bwD)) hb); have n1_ := Asd.mk (hbox); have n2_ := Asd.mk ((by rw [hg]; exact (below_size (by repeat (with_reducible first | exact HB.out | apply bwA | apply bwN | apply bwD))) : w.heap.size ≤ gb110)); have n3_ := Asd.mk ((by rw [hg]; exact (below_size (by repeat (with_reducible first | exact HB.out | apply bwA | apply bwN | apply bwD))) : w.heap.size ≤ gb110)); clear HB; have HB := n0_; have BK110 := n1_; have GW110 := n2_; have GE110 := n3_; clear n0_ n1_ n2_ n3_; clear hb hbox hg; have hcz4_0 : w3.cell? ⟨gb110, 0, none⟩ = some (.int .i64 a0_0) := (bkC BK110.out 0).trans rfl; have hcz4_1 : w3.cell? ⟨gb110, 1, none⟩ = some (.string a0_1) := (bkC BK110.out 1).trans rfl; have hfz4_0 := bkF BK110.out 0; have hfz4_1 := bkF BK110.out 1) | ((with_reducible refine gate_callee (f := 74) rfl ?_); refine gsM (some 4) rfl rfl Try.func74 (by kernel_rfl) rfl #[.agg #[.int .i64 a0_0, .string a0_1]] rfl ?_; (with_reducible refine (impl_deedText.calls k a0_0 a0_1 t111 _ A2.out).mono ?_); rintro e w5 ⟨rfl, hb⟩; refine ⟨_, rfl, ?_⟩; have n0_ := Asd.mk (bkB (g := gb110) (o := .cells #[.int .i64 a0_0, .string a0_1] 26 (0, 0)) (by (with_reducible repeat first | apply bkN | apply bkD | apply bkA); exact BK110.out) hb); have n1_ := Asd.mk (bwP (by repeat (with_reducible first | exact HB.out | apply bwA | apply bwN | apply bwD | refine bwS ?_ GE110.out)) hb); clear BK110; clear HB; have BK110 := n0_; have HB := n1_; clear n0_ n1_; (try clear hb); (try clear hb2); (try clear hk); (try clear hi)))
 go_ret
 exact ⟨by first | rfl | (simp [errW_none, errW_some] <;> rfl) | (simp [*, errW_none, errW_some] <;> rfl), by repeat (with_reducible first | exact HB.out | apply bwA | apply bwN | apply bwD | refine bwS ?_ GE110.out)⟩

/-! ### stringslite_IndexByte: function 151 (by hand) -/
def stringslite_IndexByte.f (s : ByteArray) (c : Int) : Option Int := some (Lib.indexByte s.data.toList c.toNat.toUInt8)
set_option maxRecDepth 100000 in
theorem stringslite_IndexByte.calls (s : ByteArray) (c : Int) (r : Int) (w : World) (h : stringslite_IndexByte.f s c = some r) :
  Calls Try.prog 151 #[.string s, .int .u8 c] w fun e w' => e = .returned (.int .i64 r) ∧ Drawn0 w w' := by
 obtain rfl := Option.some.inj h
 clear h
 go_enter Try.func151, Try.ntmps151
 go_wp2
 rw [run_callFunc_extern Try.func168 (by kernel_rfl) (by kernel_rfl) (by kernel_rfl) (e := Extern.BytealgIndexByte.indexByte) (by kernel_rfl), Lib.run_indexByteString]
 simp only [Result.andThen]
 rw [Oper.upon_value]
 go_wp2
 go_ret
 exact ⟨rfl, Drawn0.refl _⟩

/-! ### stringslite_Index: function 139 (by hand) -/
def stringslite_Index.f (s sub : ByteArray) : Option Int := if sub.size = 1 then (if s.size < 9223372036854775807 then (if (sub.toList == s.toList) = true then some 0 else stringslite_IndexByte.f s (bt sub 0)) else none) else none
set_option maxRecDepth 100000 in
theorem stringslite_Index.calls (s sub : ByteArray) (r : Int) (w : World) (h : stringslite_Index.f s sub = some r) :
  Calls Try.prog 139 #[.string s, .string sub] w fun e w' => e = .returned (.int .i64 r) ∧ Drawn0 w w' := by
 unfold stringslite_Index.f at h
 by_cases h1 : sub.size = 1
 ·rw [if_pos h1] at h
  by_cases h2 : s.size < 9223372036854775807
  ·rw [if_pos h2] at h
   have hs1 : ((sub.size : Int) == 0) = false := by rw [h1]; rfl
   have hs2 : ((sub.size : Int) == 1) = true := by rw [h1]; rfl
   have hs3 : decide (0 < sub.size) = true := decide_eq_true (by omega)
   have hs4 : (0 : Int) < (sub.size : Int) := by omega
   have hs5 : decide ((0 : Int) < (sub.size : Int)) = true := decide_eq_true hs4
   by_cases h3 : (sub.toList == s.toList) = true
   ·rw [if_pos h3] at h
    obtain rfl := Option.some.inj h
    clear h h1 h2
    go_enter Try.func139, Try.ntmps139
    go_wp2
    go_ret
    exact ⟨rfl, Drawn0.refl _⟩
   ·rw [if_neg h3] at h
    have HI := Asd.mk (fun (hh : 0 < sub.size) W => stringslite_IndexByte.calls s ((sub[0]'hh).toNat : Int) r W (by rw [show ((sub[0]'hh).toNat : Int) = bt sub 0 from bt_at sub 0 hh]; exact h))
    have h4 : (sub.toList == s.toList) = false := Bool.eq_false_iff.mpr h3
    clear h h1 h2 h3
    go_enter Try.func139, Try.ntmps139
    go_wp2_with fail
    refine (HI.out _ _).mono ?_
    rintro e w1 ⟨rfl, ⟨n, rfl⟩⟩
    go_wp2
    go_ret
    exact ⟨rfl, ⟨⟨n, rfl⟩⟩⟩
  ·rw [if_neg h2] at h
   cases h
 ·rw [if_neg h1] at h
  cases h

/-! ### stringslite_Cut: function 118 (by hand) -/
def stringslite_Cut.f (s sep : ByteArray) : Option (ByteArray × ByteArray × Bool) := (stringslite_Index.f s sep).bind fun i => if i < 0 then some (s, (⟨#[]⟩ : ByteArray), false) else if i.toNat + sep.size ≤ s.size then some (s.extract 0 i.toNat, s.extract (i.toNat + sep.size) s.size, true) else none
theorem stringslite_Cut.calls (s sep : ByteArray) (r1 r2 : ByteArray) (r3 : Bool) (w : World) (h : stringslite_Cut.f s sep = some (r1, r2, r3)) :
  Calls Try.prog 118 #[.string s, .string sep] w fun e w' => e = .returned (.tuple #[.string r1, .string r2, .bool r3]) ∧ Drawn0 w w' := by
 unfold stringslite_Cut.f at h
 obtain ⟨i, hi, h⟩ := Option.bind_eq_some_iff.mp h
 by_cases h0 : i < 0
 ·rw [if_pos h0] at h
  obtain ⟨rfl, rfl, rfl⟩ : s = r1 ∧ (⟨#[]⟩ : ByteArray) = r2 ∧ false = r3 := by simpa using h
  have HI := Asd.mk (fun W => stringslite_Index.calls s sep i W hi)
  have c1 : decide (0 ≤ i) = false := decide_eq_false (by omega)
  have c2 : decide (i < 0) = true := decide_eq_true h0
  clear h hi h0
  go_enter Try.func118, Try.ntmps118
  go_wp2_with fail
  refine (HI.out _).mono ?_
  rintro e w1 ⟨rfl, ⟨n, rfl⟩⟩
  go_wp2
  go_ret3
  exact ⟨rfl, ⟨⟨n, rfl⟩⟩⟩
 ·rw [if_neg h0] at h
  by_cases h1 : i.toNat + sep.size ≤ s.size
  ·rw [if_pos h1] at h
   have hsz : s.size < 9223372036854775807 := by
    unfold stringslite_Index.f at hi
    split at hi
    ·split at hi
     ·assumption
     ·cases hi
    ·cases hi
   obtain ⟨rfl, rfl, rfl⟩ : s.extract 0 i.toNat = r1 ∧ s.extract (i.toNat + sep.size) s.size = r2 ∧ true = r3 := by simpa using h
   clear h
   obtain ⟨n, rfl⟩ := Int.eq_ofNat_of_zero_le (by omega : 0 ≤ i)
   rw [Int.toNat_natCast] at h1 ⊢
   have HI := Asd.mk (fun W => stringslite_Index.calls s sep n W hi)
   have c0 : (0 : Int) ≤ (n : Int) := by omega
   have c2 : (n : Int) ≤ (s.size : Int) := by omega
   have c3 : (0 : Int) ≤ (n : Int) + (sep.size : Int) := by omega
   have c4 : (n : Int) + (sep.size : Int) ≤ (s.size : Int) := by omega
   have c5 : (n : Int) + (sep.size : Int) < 9223372036854775807 := by omega
   clear hi h0 h1
   go_enter Try.func118, Try.ntmps118
   go_wp2_with fail
   refine (HI.out _).mono ?_
   rintro e w1 ⟨rfl, ⟨m, rfl⟩⟩
   go_wp2
   go_quiet (fail)
   go_wp2
   go_ret3
   exact ⟨rfl, Drawn0.step ⟨⟨m, rfl⟩⟩ _⟩
  ·rw [if_neg h1] at h
   cases h

/-! ### strings_Cut: function 76 (by hand) -/
def strings_Cut.f (s sep : ByteArray) : Option (ByteArray × ByteArray × Bool) := stringslite_Cut.f s sep
theorem strings_Cut.calls (s sep : ByteArray) (r1 r2 : ByteArray) (r3 : Bool) (w : World) (h : strings_Cut.f s sep = some (r1, r2, r3)) :
  Calls Try.prog 76 #[.string s, .string sep] w fun e w' => e = .returned (.tuple #[.string r1, .string r2, .bool r3]) ∧ Drawn0 w w' := by
 have HI := Asd.mk (fun W => stringslite_Cut.calls s sep r1 r2 r3 W h)
 clear h
 go_enter Try.func76, Try.ntmps76
 go_wp2_with fail
 refine (HI.out _).mono ?_
 rintro e w1 ⟨rfl, ⟨n, rfl⟩⟩
 go_wp2
 go_ret3
 exact ⟨rfl, ⟨⟨n, rfl⟩⟩⟩

end Go.Proofs.Ytihgpkohglcijaa.P
