-- Written by a program of this session (wip/hook.py), which runs the kit's printer; Lean checks it.
import Derived.Test.YtihgpkohglcijaaPx0
import Derived.Test.YtihgpkohglcijaaPx11
import Derived.Test.YtihgpkohglcijaaPx12
namespace Go.Proofs.Ytihgpkohglcijaa.P
open Go.RowKit Go.Proofs.YtihgpkohglcijaaW.PrintWords Go.Proofs.YtihgpkohglcijaaW.PrintLast Go.Proofs.YtihgpkohglcijaaW.PrintMore
attribute [local go_sem] max2_int min2_int max_two min_two max_three min_three max_four min_four   -- for this text's walks alone
set_option linter.unusedVariables false
set_option linter.unusedSimpArgs false

/-! ### spec_l1Read: function 119 -/
mutual
def spec_l1Read.j0 : Nat → Int → ByteArray → Int → Int → Bool → Option (Int × Int)
 | 0, _, _, _, _, _ => none
 | k + 1, x0, x1, x2, x8, x38 => if x38 = true then (spec_l1Read.l0 k x0 x1 x2 0 0) else (if 0 ≤ x2 then (if x2 < (x1.size : Int) then (if (bt x1 x2) = 33 then ((spec_l1Read.f k x0 x1 (wrap64 (x2 + 1))).bind fun bt350 => (if bt350.2 < 0 then (some ((-1), (-1))) else (some (wrap64 (x8 - bt350.1), bt350.2)))) else (if (bt x1 x2) = 40 then ((spec_l1Read.f k x0 x1 (wrap64 (x2 + 1))).bind fun bt352 => (if bt352.2 < 0 then (spec_l1Read.j2 k x0 x1 x8 bt352.1 bt352.2 true) else (spec_l1Read.j2 k x0 x1 x8 bt352.1 bt352.2 (decide (bt352.2 ≥ (x1.size : Int)))))) else (some ((-1), (-1))))) else (none)) else (none))
def spec_l1Read.l0 : Nat → Int → ByteArray → Int → Int → Int → Option (Int × Int)
 | 0, _, _, _, _, _ => none
 | k + 1, x0, x1, x2, x9, x10 => if 0 ≤ x0 then (if x10 < (shl .i64 1 x0) then (if 0 ≤ x2 then (if x2 < (x1.size : Int) then (if 0 ≤ x10 then (spec_l1Read.l0 k x0 x1 x2 (wrap64 (x9 + (shl .i64 (Int.tmod (shr .i64 x10 (((bt x1 x2) - 97) % 256)) 2) x10))) (wrap64 (x10 + 1))) else (none)) else (none)) else (none)) else (some (x9, wrap64 (x2 + 1)))) else (none)
def spec_l1Read.j2 : Nat → Int → ByteArray → Int → Int → Int → Bool → Option (Int × Int)
 | 0, _, _, _, _, _, _ => none
 | k + 1, x0, x1, x8, x13, x14, x111 => if x111 = true then (some ((-1), (-1))) else ((spec_l1Read.f k x0 x1 (wrap64 (x14 + 1))).bind fun bt354 => (if bt354.2 < 0 then (spec_l1Read.j3 k x1 x8 x13 x14 bt354.1 bt354.2 true) else (if bt354.2 ≥ (x1.size : Int) then (spec_l1Read.j3 k x1 x8 x13 x14 bt354.1 bt354.2 true) else (if 0 ≤ bt354.2 then (if bt354.2 < (x1.size : Int) then (spec_l1Read.j3 k x1 x8 x13 x14 bt354.1 bt354.2 ((bt x1 bt354.2) != 41)) else (none)) else (none)))))
def spec_l1Read.j3 : Nat → ByteArray → Int → Int → Int → Int → Int → Bool → Option (Int × Int)
 | 0, _, _, _, _, _, _, _ => none
 | k + 1, x1, x8, x13, x14, x15, x16, x133 => if x133 = true then (some ((-1), (-1))) else (if 0 ≤ x14 then (if x14 < (x1.size : Int) then (if (bt x1 x14) = 38 then ((spec_l1Both.f k x13 x15).bind fun t356 => (some (t356, wrap64 (x16 + 1)))) else (if (bt x1 x14) = 124 then ((spec_l1Either.f k x13 x15).bind fun t357 => (some (t357, wrap64 (x16 + 1)))) else (if (bt x1 x14) = 62 then ((spec_l1Either.f k (wrap64 (x8 - x13)) x15).bind fun t358 => (some (t358, wrap64 (x16 + 1)))) else (some ((-1), (-1)))))) else (none)) else (none))
def spec_l1Read.f : Nat → Int → ByteArray → Int → Option (Int × Int)
 | 0, _, _, _ => none
 | k + 1, a0, a1, a2 => if a2 ≥ (a1.size : Int) then (some ((-1), (-1))) else ((spec_l1All.f a0).bind fun t349 => (if 0 ≤ a2 then (if a2 < (a1.size : Int) then (if (bt a1 a2) = 49 then (some (t349, wrap64 (a2 + 1))) else (if (bt a1 a2) = 48 then (some (0, wrap64 (a2 + 1))) else (if (bt a1 a2) ≥ 97 then (spec_l1Read.j0 k a0 a1 a2 t349 (decide ((((bt a1 a2) - 97) % 256) < a0))) else (spec_l1Read.j0 k a0 a1 a2 t349 false)))) else (none)) else (none)))
end
theorem spec_l1Read.mono_l : ∀ k, (∀ y0 y1 y2, LeO (spec_l1Read.f k y0 y1 y2) (spec_l1Read.f (k + 1) y0 y1 y2)) ∧ (∀ y0 y1 y2 y3 y4, LeO (spec_l1Read.j0 k y0 y1 y2 y3 y4) (spec_l1Read.j0 (k + 1) y0 y1 y2 y3 y4)) ∧ (∀ y0 y1 y2 y3 y4, LeO (spec_l1Read.l0 k y0 y1 y2 y3 y4) (spec_l1Read.l0 (k + 1) y0 y1 y2 y3 y4)) ∧ (∀ y0 y1 y2 y3 y4 y5, LeO (spec_l1Read.j2 k y0 y1 y2 y3 y4 y5) (spec_l1Read.j2 (k + 1) y0 y1 y2 y3 y4 y5)) ∧ (∀ y0 y1 y2 y3 y4 y5 y6, LeO (spec_l1Read.j3 k y0 y1 y2 y3 y4 y5 y6) (spec_l1Read.j3 (k + 1) y0 y1 y2 y3 y4 y5 y6))
 | 0 => ⟨fun _ _ _ r h => by simp [spec_l1Read.f] at h, fun _ _ _ _ _ r h => by simp [spec_l1Read.j0] at h, fun _ _ _ _ _ r h => by simp [spec_l1Read.l0] at h, fun _ _ _ _ _ _ r h => by simp [spec_l1Read.j2] at h, fun _ _ _ _ _ _ _ r h => by simp [spec_l1Read.j3] at h⟩
 | k + 1 => by
  obtain ⟨ih0, ih1, ih2, ih3, ih4⟩ := spec_l1Read.mono_l k
  refine ⟨?_, ?_, ?_, ?_, ?_⟩
  ·intro y0 y1 y2
   unfold spec_l1Read.f
   repeat' first
   | (with_reducible first | exact ih0 _ _ _ | exact ih1 _ _ _ _ _ | exact ih2 _ _ _ _ _ | exact ih3 _ _ _ _ _ _ | exact ih4 _ _ _ _ _ _ _ | exact spec_l1Both.mono _ _ _ | exact spec_l1Either.mono _ _ _ | exact LeO.refl _ | exact LeO.none _ | refine LeO.ite ?_ ?_ | refine LeO.bind ?_ (fun _ => ?_))
   | refine LeO.ite ?_ ?_
   | refine LeO.bind ?_ (fun _ => ?_)
  ·intro y0 y1 y2 y3 y4
   unfold spec_l1Read.j0
   repeat' first
   | (with_reducible first | exact ih0 _ _ _ | exact ih1 _ _ _ _ _ | exact ih2 _ _ _ _ _ | exact ih3 _ _ _ _ _ _ | exact ih4 _ _ _ _ _ _ _ | exact spec_l1Both.mono _ _ _ | exact spec_l1Either.mono _ _ _ | exact LeO.refl _ | exact LeO.none _ | refine LeO.ite ?_ ?_ | refine LeO.bind ?_ (fun _ => ?_))
   | refine LeO.ite ?_ ?_
   | refine LeO.bind ?_ (fun _ => ?_)
  ·intro y0 y1 y2 y3 y4
   unfold spec_l1Read.l0
   repeat' first
   | (with_reducible first | exact ih0 _ _ _ | exact ih1 _ _ _ _ _ | exact ih2 _ _ _ _ _ | exact ih3 _ _ _ _ _ _ | exact ih4 _ _ _ _ _ _ _ | exact spec_l1Both.mono _ _ _ | exact spec_l1Either.mono _ _ _ | exact LeO.refl _ | exact LeO.none _ | refine LeO.ite ?_ ?_ | refine LeO.bind ?_ (fun _ => ?_))
   | refine LeO.ite ?_ ?_
   | refine LeO.bind ?_ (fun _ => ?_)
  ·intro y0 y1 y2 y3 y4 y5
   unfold spec_l1Read.j2
   repeat' first
   | (with_reducible first | exact ih0 _ _ _ | exact ih1 _ _ _ _ _ | exact ih2 _ _ _ _ _ | exact ih3 _ _ _ _ _ _ | exact ih4 _ _ _ _ _ _ _ | exact spec_l1Both.mono _ _ _ | exact spec_l1Either.mono _ _ _ | exact LeO.refl _ | exact LeO.none _ | refine LeO.ite ?_ ?_ | refine LeO.bind ?_ (fun _ => ?_))
   | refine LeO.ite ?_ ?_
   | refine LeO.bind ?_ (fun _ => ?_)
  ·intro y0 y1 y2 y3 y4 y5 y6
   unfold spec_l1Read.j3
   repeat' first
   | (with_reducible first | exact ih0 _ _ _ | exact ih1 _ _ _ _ _ | exact ih2 _ _ _ _ _ | exact ih3 _ _ _ _ _ _ | exact ih4 _ _ _ _ _ _ _ | exact spec_l1Both.mono _ _ _ | exact spec_l1Either.mono _ _ _ | exact LeO.refl _ | exact LeO.none _ | refine LeO.ite ?_ ?_ | refine LeO.bind ?_ (fun _ => ?_))
   | refine LeO.ite ?_ ?_
   | refine LeO.bind ?_ (fun _ => ?_)
theorem spec_l1Read.mono : ∀ a0 a1 a2 k, LeO (spec_l1Read.f k a0 a1 a2) (spec_l1Read.f (k + 1) a0 a1 a2) := by
 intro a0 a1 a2 k
 obtain ⟨ih0, ih1, ih2, ih3, ih4⟩ := spec_l1Read.mono_l k
 exact ih0 a0 a1 a2
set_option maxHeartbeats 8000000 in
set_option maxRecDepth 100000 in
theorem spec_l1Read.calls (k : Nat) : ∀ (a0 : Int) (a1 : ByteArray) (a2 : Int) (r1 : Int) (r2 : Int) (w : World) (h : spec_l1Read.f k a0 a1 a2 = some (r1, r2)),
  Calls Try.prog 119 #[.int .i64 a0, .string a1, .int .i64 a2] w fun e w' => e = .returned (.tuple #[.int .i64 r1, .int .i64 r2]) ∧ Drawn0 w w' := by
 induction k using Nat.strongRecOn with
 | _ k ih =>
 intro a0 a1 a2 r1 r2 w h
 cases k with
 | zero => exact absurd h (by simp [spec_l1Read.f])
 | succ k =>
 simp only [spec_l1Read.f] at h
 have H : (if a2 ≥ (a1.size : Int) then (some ((-1), (-1))) else ((spec_l1All.f a0).bind fun t349 => (if 0 ≤ a2 then (if a2 < (a1.size : Int) then (if (bt a1 a2) = 49 then (some (t349, wrap64 (a2 + 1))) else (if (bt a1 a2) = 48 then (some (0, wrap64 (a2 + 1))) else (if (bt a1 a2) ≥ 97 then (spec_l1Read.j0 k a0 a1 a2 t349 (decide ((((bt a1 a2) - 97) % 256) < a0))) else (spec_l1Read.j0 k a0 a1 a2 t349 false)))) else (none)) else (none)))) = some (r1, r2) := h
 clear h
 by_cases c4 : a2 ≥ (a1.size : Int)
 ·rw [if_pos c4] at H
  have c4b0 : decide ((a1.size : Int) ≤ a2) = true := decide_eq_true c4
  clear c4
  simp only [Option.some.injEq, Prod.mk.injEq] at H
  obtain ⟨rfl, rfl⟩ := H
  go_enter Try.func119, Try.ntmps119
  go_wp2
  go_ret2
  exact ⟨by first | rfl | (simp; done) | (simp [*]; done), by repeat (first | exact Drawn0.refl _ | apply Drawn0.step)⟩
 ·rw [if_neg c4] at H
  have c4b0 : decide ((a1.size : Int) ≤ a2) = false := decide_eq_false c4
  clear c4
  replace H := Option.bind_eq_some_iff.mp H
  obtain ⟨t349, A50, H⟩ := H
  try dsimp only at H
  have A5 := Asd.mk A50
  clear A50
  by_cases c6 : 0 ≤ a2; rotate_left; (rw [if_neg c6] at H; exact absurd H (by simp))
  rw [if_pos c6] at H
  have c6b0 : decide (0 ≤ a2) = true := decide_eq_true c6
  clear c6
  by_cases c7 : a2 < (a1.size : Int); rotate_left; (rw [if_neg c7] at H; exact absurd H (by simp))
  rw [if_pos c7] at H
  have c7b0 : decide (a2 < (a1.size : Int)) = true := decide_eq_true c7
  clear c7
  by_cases c9 : (bt a1 a2) = 49
  ·rw [if_pos c9] at H
   have c9b0 : ((bt a1 a2) == 49) = true := beq_iff_eq.mpr c9
   have c9b1 : ((bt a1 a2) != 49) = false := bne_eq_false_iff_eq.mpr c9
   clear c9
   simp only [Option.some.injEq, Prod.mk.injEq] at H
   obtain ⟨rfl, rfl⟩ := H
   go_enter Try.func119, Try.ntmps119
   go_wp2_with (first | ((with_reducible refine gate_callee (f := 140) rfl ?_); refine gsM (some 22) rfl rfl Try.func140 (by kernel_rfl) rfl #[.int .i64 a0] rfl ?_; (with_reducible refine (spec_l1All.calls a0 t349 _ A5.out).mono ?_); rintro e w' ⟨rfl, ⟨nd, rfl⟩⟩; refine ⟨_, rfl, ?_⟩; have p8 : 0 ≤ (a2 : Int) := odt; have q8 : a2 < (a1.size : Int) := odt; have hx8 := bt_at a1 a2; replace p8 := eq_true p8; replace q8 := eq_true q8))
   go_ret2
   exact ⟨by first | rfl | (simp; done) | (simp [*]; done), by repeat (first | exact Drawn0.refl _ | apply Drawn0.step)⟩
  ·rw [if_neg c9] at H
   have c9b0 : ((bt a1 a2) == 49) = false := beq_eq_false_iff_ne.mpr c9
   have c9b1 : ((bt a1 a2) != 49) = true := bne_iff_ne.mpr c9
   by_cases c11 : (bt a1 a2) = 48
   ·rw [if_pos c11] at H
    have c11b0 : ((bt a1 a2) == 48) = true := beq_iff_eq.mpr c11
    have c11b1 : ((bt a1 a2) != 48) = false := bne_eq_false_iff_eq.mpr c11
    clear c11
    simp only [Option.some.injEq, Prod.mk.injEq] at H
    obtain ⟨rfl, rfl⟩ := H
    go_enter Try.func119, Try.ntmps119
    go_wp2_with (first | ((with_reducible refine gate_callee (f := 140) rfl ?_); refine gsM (some 22) rfl rfl Try.func140 (by kernel_rfl) rfl #[.int .i64 a0] rfl ?_; (with_reducible refine (spec_l1All.calls a0 t349 _ A5.out).mono ?_); rintro e w' ⟨rfl, ⟨nd, rfl⟩⟩; refine ⟨_, rfl, ?_⟩; have p8 : 0 ≤ (a2 : Int) := odt; have q8 : a2 < (a1.size : Int) := odt; have hx8 := bt_at a1 a2; replace p8 := eq_true p8; replace q8 := eq_true q8; have p10 : 0 ≤ (a2 : Int) := odt; have q10 : a2 < (a1.size : Int) := odt; have hx10 := bt_at a1 a2; replace p10 := eq_true p10; replace q10 := eq_true q10))
    go_ret2
    exact ⟨by first | rfl | (simp; done) | (simp [*]; done), by repeat (first | exact Drawn0.refl _ | apply Drawn0.step)⟩
   ·rw [if_neg c11] at H
    have c11b0 : ((bt a1 a2) == 48) = false := beq_eq_false_iff_ne.mpr c11
    have c11b1 : ((bt a1 a2) != 48) = true := bne_iff_ne.mpr c11
    have HC12 := Asd.mk H
    clear H
    go_enter Try.func119, Try.ntmps119
    go_upto_region 8 with (first | ((with_reducible refine gate_callee (f := 140) rfl ?_); refine gsM (some 22) rfl rfl Try.func140 (by kernel_rfl) rfl #[.int .i64 a0] rfl ?_; (with_reducible refine (spec_l1All.calls a0 t349 _ A5.out).mono ?_); rintro e w' ⟨rfl, ⟨nd, rfl⟩⟩; refine ⟨_, rfl, ?_⟩; have p8 : 0 ≤ (a2 : Int) := odt; have q8 : a2 < (a1.size : Int) := odt; have hx8 := bt_at a1 a2; replace p8 := eq_true p8; replace q8 := eq_true q8; have p10 : 0 ≤ (a2 : Int) := odt; have q10 : a2 < (a1.size : Int) := odt; have hx10 := bt_at a1 a2; replace p10 := eq_true p10; replace q10 := eq_true q10))
    (try simp only [Act.put, qA, qB, qC])
    go_cut [38] (fun v38 wc => ∃ (kq : Nat) (x38_11 : Bool), v38 = .bool x38_11 ∧ Asd (spec_l1Read.j0 kq a0 a1 a2 t349 x38_11 = some (r1, r2)) ∧ Asd (kq ≤ k) ∧ Drawn0 w wc)
    case first =>
     have H := HC12.out
     clear HC12
     by_cases c14 : (bt a1 a2) ≥ 97
     ·rw [if_pos c14] at H
      have c14b0 : decide (97 ≤ (bt a1 a2)) = true := decide_eq_true c14
      clear c14
      (first | rw [c14b0] | (simp only [i64_w, i32_w]; rw [c14b0]) | skip)
      have H' := Asd.mk H
      clear H
      have p13 : 0 ≤ (a2 : Int) := odt
      have q13 : a2 < (a1.size : Int) := odt
      have hx13 := bt_at a1 a2
      replace p13 := eq_true p13
      replace q13 := eq_true q13
      have p15 : 0 ≤ (a2 : Int) := odt
      have q15 : a2 < (a1.size : Int) := odt
      have hx15 := bt_at a1 a2
      replace p15 := eq_true p15
      replace q15 := eq_true q15
      go_wp2
      go_meet
      case rel => exact ⟨_, (decide ((((bt a1 a2) - 97) % 256) < a0)), (by first | rfl | (simp; done) | (simp [*]; done)), H', ⟨by first | omega | exact Nat.le_refl _⟩, by repeat (first | exact Drawn0.refl _ | apply Drawn0.step)⟩
     ·rw [if_neg c14] at H
      have c14b0 : decide (97 ≤ (bt a1 a2)) = false := decide_eq_false c14
      clear c14
      (first | rw [c14b0] | (simp only [i64_w, i32_w]; rw [c14b0]) | skip)
      have H' := Asd.mk H
      clear H
      have p13 : 0 ≤ (a2 : Int) := odt
      have q13 : a2 < (a1.size : Int) := odt
      have hx13 := bt_at a1 a2
      replace p13 := eq_true p13
      replace q13 := eq_true q13
      go_wp2
      go_meet
      case rel => exact ⟨_, (false), (by first | rfl | (simp; done) | (simp [*]; done)), H', ⟨by first | omega | exact Nat.le_refl _⟩, by repeat (first | exact Drawn0.refl _ | apply Drawn0.step)⟩
    case rest =>
     clear HC12
     obtain ⟨kq, x38_11, rfl, HA, HJ11, ⟨mc11, rfl⟩⟩ := hcut
     cases kq with
     | zero => exact absurd HA.out (by simp [spec_l1Read.j0])
     | succ kj11 =>
      have H := HA.out
      clear HA
      simp only [spec_l1Read.j0] at H
      by_cases c16 : x38_11 = true
      ·subst c16
       rw [if_pos rfl] at H
       have H' := Asd.mk H
       clear H
       go_wp2
       go_loopg [9, 10] kj11 (fun kq v9 v10 w' => ∃ (x9_2 : Int) (x10_2 : Int), v9 = .int .i64 x9_2 ∧ v10 = .int .i64 x10_2 ∧ Asd (spec_l1Read.l0 kq a0 a1 a2 x9_2 x10_2 = some (r1, r2)) ∧ Asd (kq ≤ kj11) ∧ Drawn0 w w')
       case atStart => exact ⟨(0), (0), (by first | rfl | (simp; done) | (simp [*]; done)), (by first | rfl | (simp; done) | (simp [*]; done)), H', ⟨Nat.le_refl _⟩, by repeat (first | exact Drawn0.refl _ | apply Drawn0.step)⟩
       case round =>
        clear H'
        obtain ⟨x9_2, x10_2, rfl, rfl, HA, HK2, ⟨m2, rfl⟩⟩ := hrel
        cases gk with
        | zero => exact absurd HA.out (by simp [spec_l1Read.l0])
        | succ k2 =>
         have H := HA.out
         clear HA
         simp only [spec_l1Read.l0] at H
         by_cases c17 : 0 ≤ a0; rotate_left; (rw [if_neg c17] at H; exact absurd H (by simp))
         rw [if_pos c17] at H
         have c17b0 := eq_true c17
         have c17b1 : decide (0 ≤ a0) = true := decide_eq_true c17
         clear c17
         obtain ⟨ji18, hji18⟩ : ∃ j_ : Int, (shl .i64 1 a0) = j_ := ⟨_, rfl⟩
         replace H : (if x10_2 < (ji18) then (if 0 ≤ a2 then (if a2 < (a1.size : Int) then (if 0 ≤ x10_2 then (spec_l1Read.l0 k2 a0 a1 a2 (wrap64 (x9_2 + (shl .i64 (Int.tmod (shr .i64 x10_2 (((bt a1 a2) - 97) % 256)) 2) x10_2))) (wrap64 (x10_2 + 1))) else (none)) else (none)) else (none)) else (some (x9_2, wrap64 (a2 + 1)))) = some (r1, r2) := by first | (rw [hji18] at H; exact H) | (simp only [hji18] at H ⊢; exact H)
         have hji18_ : (IntKind.i64.wrap (1 * 2 ^ min a0.toNat 64)) = ji18 := hji18
         have hji18z : a0 ≤ 64 → (IntKind.i64.wrap (1 * 2 ^ a0.toNat)) = ji18 := shl_small hji18
         have hji18u : (IntKind.i64.wrap (2 ^ min a0.toNat 64)) = ji18 := by have h_ := hji18_; rw [Int.one_mul] at h_; exact h_
         have hji18v : a0 ≤ 64 → (IntKind.i64.wrap (2 ^ a0.toNat)) = ji18 := fun hle_ => by have h_ := hji18z hle_; rw [Int.one_mul] at h_; exact h_
         have hji18y : (wrap64 (1 * 2 ^ min a0.toNat 64)) = ji18 := (i64_w _).symm.trans hji18_
         have hji18x : a0 ≤ 64 → (wrap64 (1 * 2 ^ a0.toNat)) = ji18 := fun h_ => (i64_w _).symm.trans (hji18z h_)
         by_cases c19 : x10_2 < (ji18)
         ·rw [if_pos c19] at H
          have c19b0 : decide (x10_2 < (ji18)) = true := decide_eq_true c19
          clear c19
          by_cases c20 : 0 ≤ a2; rotate_left; (rw [if_neg c20] at H; exact absurd H (by simp))
          rw [if_pos c20] at H
          have c20b0 : decide (0 ≤ a2) = true := decide_eq_true c20
          clear c20
          by_cases c21 : a2 < (a1.size : Int); rotate_left; (rw [if_neg c21] at H; exact absurd H (by simp))
          rw [if_pos c21] at H
          have c21b0 : decide (a2 < (a1.size : Int)) = true := decide_eq_true c21
          clear c21
          obtain ⟨ji23, hji23⟩ : ∃ j_ : Int, (shr .i64 x10_2 (((bt a1 a2) - 97) % 256)) = j_ := ⟨_, rfl⟩
          replace H : (if 0 ≤ x10_2 then (spec_l1Read.l0 k2 a0 a1 a2 (wrap64 (x9_2 + (shl .i64 (Int.tmod (ji23) 2) x10_2))) (wrap64 (x10_2 + 1))) else (none)) = some (r1, r2) := by first | (rw [hji23] at H; exact H) | (simp only [hji23] at H ⊢; exact H)
          have hji23_ : (x10_2 / 2 ^ min (((bt a1 a2) - 97) % 256).toNat 64) = ji23 := hji23
          have hji23u0 := eq_true (show (0 : Int) ≤ (((bt a1 a2) - 97) % 256) by omega)
          have hji23u1 : decide ((0 : Int) ≤ (((bt a1 a2) - 97) % 256)) = true := decide_eq_true (by omega)
          have hji23u2 : decide ((((bt a1 a2) - 97) % 256) < 0) = false := decide_eq_false (by omega)
          have hji23z : (((bt a1 a2) - 97) % 256) ≤ 64 → (x10_2 / 2 ^ (((bt a1 a2) - 97) % 256).toNat) = ji23 := shr_small hji23
          by_cases c24 : 0 ≤ x10_2; rotate_left; (rw [if_neg c24] at H; exact absurd H (by simp))
          rw [if_pos c24] at H
          have c24b0 := eq_true c24
          have c24b1 : decide (0 ≤ x10_2) = true := decide_eq_true c24
          clear c24
          obtain ⟨ji25, hji25⟩ : ∃ j_ : Int, (shl .i64 (Int.tmod (ji23) 2) x10_2) = j_ := ⟨_, rfl⟩
          replace H : (spec_l1Read.l0 k2 a0 a1 a2 (wrap64 (x9_2 + (ji25))) (wrap64 (x10_2 + 1))) = some (r1, r2) := by first | (rw [hji25] at H; exact H) | (simp only [hji25] at H ⊢; exact H)
          have hji25_ : (IntKind.i64.wrap ((Int.tmod (ji23) 2) * 2 ^ min x10_2.toNat 64)) = ji25 := hji25
          have hji25z : x10_2 ≤ 64 → (IntKind.i64.wrap ((Int.tmod (ji23) 2) * 2 ^ x10_2.toNat)) = ji25 := shl_small hji25
          have hji25y : (wrap64 ((Int.tmod (ji23) 2) * 2 ^ min x10_2.toNat 64)) = ji25 := (i64_w _).symm.trans hji25_
          have hji25x : x10_2 ≤ 64 → (wrap64 ((Int.tmod (ji23) 2) * 2 ^ x10_2.toNat)) = ji25 := fun h_ => (i64_w _).symm.trans (hji25z h_)
          have H' := Asd.mk H
          clear H
          have p22 : 0 ≤ (a2 : Int) := odt
          have q22 : a2 < (a1.size : Int) := odt
          have hx22 := bt_at a1 a2
          replace p22 := eq_true p22
          replace q22 := eq_true q22
          go_wp2
          go_roundg k2
          case measure => have := HJ11.out; have := HK2.out; omega
          case rel => exact ⟨(wrap64 (x9_2 + (ji25))), (wrap64 (x10_2 + 1)), (by first | rfl | (simp; done) | (simp only [← hji25] <;> (first | rfl | simp)) | (simp [*]; done)), (by first | rfl | (simp; done) | (simp [*]; done)), H', ⟨by have := HJ11.out; have := HK2.out; omega⟩, by repeat (first | exact Drawn0.refl _ | apply Drawn0.step)⟩
         ·rw [if_neg c19] at H
          have c19b0 : decide (x10_2 < (ji18)) = false := decide_eq_false c19
          clear c19
          simp only [Option.some.injEq, Prod.mk.injEq] at H
          obtain ⟨rfl, rfl⟩ := H
          go_wp2
          go_ret2
          exact ⟨by first | rfl | (simp; done) | (simp only [← hji18] <;> (first | rfl | simp)) | (simp [*]; done), by repeat (first | exact Drawn0.refl _ | apply Drawn0.step)⟩
      ·replace c16 := Bool.eq_false_iff.mpr c16
       subst c16
       rw [if_neg (show ¬ (false = true) by decide)] at H
       by_cases c26 : 0 ≤ a2; rotate_left; (rw [if_neg c26] at H; exact absurd H (by simp))
       rw [if_pos c26] at H
       have c26b0 : decide (0 ≤ a2) = true := decide_eq_true c26
       clear c26
       by_cases c27 : a2 < (a1.size : Int); rotate_left; (rw [if_neg c27] at H; exact absurd H (by simp))
       rw [if_pos c27] at H
       have c27b0 : decide (a2 < (a1.size : Int)) = true := decide_eq_true c27
       clear c27
       by_cases c29 : (bt a1 a2) = 33
       ·rw [if_pos c29] at H
        have c29b0 : ((bt a1 a2) == 33) = true := beq_iff_eq.mpr c29
        have c29b1 : ((bt a1 a2) != 33) = false := bne_eq_false_iff_eq.mpr c29
        clear c29
        replace H := Option.bind_eq_some_iff.mp H
        obtain ⟨⟨t350, t351⟩, A300, H⟩ := H
        try dsimp only at H
        have A30 := Asd.mk A300
        clear A300
        by_cases c31 : t351 < 0
        ·rw [if_pos c31] at H
         have c31b0 : decide (t351 < 0) = true := decide_eq_true c31
         clear c31
         simp only [Option.some.injEq, Prod.mk.injEq] at H
         obtain ⟨rfl, rfl⟩ := H
         have p28 : 0 ≤ (a2 : Int) := odt
         have q28 : a2 < (a1.size : Int) := odt
         have hx28 := bt_at a1 a2
         replace p28 := eq_true p28
         replace q28 := eq_true q28
         go_wp2_with (first | ((with_reducible refine gate_callee (f := 119) rfl ?_); refine gsM (some 82) rfl rfl Try.func119 (by kernel_rfl) rfl #[.int .i64 a0, .string a1, .int .i64 (wrap64 (a2 + 1))] rfl ?_; (with_reducible refine (ih kj11 (by have := HJ11.out; omega) a0 a1 (wrap64 (a2 + 1)) t350 t351 _ A30.out).mono ?_); rintro e w' ⟨rfl, ⟨nd, rfl⟩⟩; refine ⟨_, rfl, ?_⟩))
         go_ret2
         exact ⟨by first | rfl | (simp; done) | (simp [*]; done), by repeat (first | exact Drawn0.refl _ | apply Drawn0.step)⟩
        ·rw [if_neg c31] at H
         have c31b0 : decide (t351 < 0) = false := decide_eq_false c31
         clear c31
         simp only [Option.some.injEq, Prod.mk.injEq] at H
         obtain ⟨rfl, rfl⟩ := H
         have p28 : 0 ≤ (a2 : Int) := odt
         have q28 : a2 < (a1.size : Int) := odt
         have hx28 := bt_at a1 a2
         replace p28 := eq_true p28
         replace q28 := eq_true q28
         go_wp2_with (first | ((with_reducible refine gate_callee (f := 119) rfl ?_); refine gsM (some 82) rfl rfl Try.func119 (by kernel_rfl) rfl #[.int .i64 a0, .string a1, .int .i64 (wrap64 (a2 + 1))] rfl ?_; (with_reducible refine (ih kj11 (by have := HJ11.out; omega) a0 a1 (wrap64 (a2 + 1)) t350 t351 _ A30.out).mono ?_); rintro e w' ⟨rfl, ⟨nd, rfl⟩⟩; refine ⟨_, rfl, ?_⟩))
         go_ret2
         exact ⟨by first | rfl | (simp; done) | (simp [*]; done), by repeat (first | exact Drawn0.refl _ | apply Drawn0.step)⟩
       ·rw [if_neg c29] at H
        have c29b0 : ((bt a1 a2) == 33) = false := beq_eq_false_iff_ne.mpr c29
        have c29b1 : ((bt a1 a2) != 33) = true := bne_iff_ne.mpr c29
        by_cases c33 : (bt a1 a2) = 40
        ·rw [if_pos c33] at H
         have c33b0 : ((bt a1 a2) == 40) = true := beq_iff_eq.mpr c33
         have c33b1 : ((bt a1 a2) != 40) = false := bne_eq_false_iff_eq.mpr c33
         clear c33
         replace H := Option.bind_eq_some_iff.mp H
         obtain ⟨⟨t352, t353⟩, A340, H⟩ := H
         try dsimp only at H
         have A34 := Asd.mk A340
         clear A340
         have HC35 := Asd.mk H
         clear H
         have p28 : 0 ≤ (a2 : Int) := odt
         have q28 : a2 < (a1.size : Int) := odt
         have hx28 := bt_at a1 a2
         replace p28 := eq_true p28
         replace q28 := eq_true q28
         have p32 : 0 ≤ (a2 : Int) := odt
         have q32 : a2 < (a1.size : Int) := odt
         have hx32 := bt_at a1 a2
         replace p32 := eq_true p32
         replace q32 := eq_true q32
         go_upto_region 22 with (first | ((with_reducible refine gate_callee (f := 119) rfl ?_); refine gsM (some 101) rfl rfl Try.func119 (by kernel_rfl) rfl #[.int .i64 a0, .string a1, .int .i64 (wrap64 (a2 + 1))] rfl ?_; (with_reducible refine (ih kj11 (by have := HJ11.out; omega) a0 a1 (wrap64 (a2 + 1)) t352 t353 _ A34.out).mono ?_); rintro e w' ⟨rfl, ⟨nd, rfl⟩⟩; refine ⟨_, rfl, ?_⟩))
         (try simp only [Act.put, qA, qB, qC])
         go_cut [111] (fun v111 wc => ∃ (kq : Nat) (x111_34 : Bool), v111 = .bool x111_34 ∧ Asd (spec_l1Read.j2 kq a0 a1 t349 t352 t353 x111_34 = some (r1, r2)) ∧ Asd (kq ≤ kj11) ∧ Drawn0 w wc)
         case first =>
          have H := HC35.out
          clear HC35
          by_cases c36 : t353 < 0
          ·rw [if_pos c36] at H
           have c36b0 : decide (t353 < 0) = true := decide_eq_true c36
           clear c36
           (first | rw [c36b0] | (simp only [i64_w, i32_w]; rw [c36b0]) | skip)
           have H' := Asd.mk H
           clear H
           go_wp2
           go_meet
           case rel => exact ⟨_, (true), (by first | rfl | (simp; done) | (simp [*]; done)), H', ⟨by have := HJ11.out; first | omega | exact Nat.le_refl _⟩, by repeat (first | exact Drawn0.refl _ | apply Drawn0.step)⟩
          ·rw [if_neg c36] at H
           have c36b0 : decide (t353 < 0) = false := decide_eq_false c36
           clear c36
           (first | rw [c36b0] | (simp only [i64_w, i32_w]; rw [c36b0]) | skip)
           have H' := Asd.mk H
           clear H
           go_wp2
           go_meet
           case rel => exact ⟨_, (decide (t353 ≥ (a1.size : Int))), (by first | rfl | (simp; done) | (simp [*]; done)), H', ⟨by have := HJ11.out; first | omega | exact Nat.le_refl _⟩, by repeat (first | exact Drawn0.refl _ | apply Drawn0.step)⟩
         case rest =>
          clear HC35
          obtain ⟨kq, x111_34, rfl, HA, HJ34, ⟨mc34, rfl⟩⟩ := hcut
          cases kq with
          | zero => exact absurd HA.out (by simp [spec_l1Read.j2])
          | succ kj34 =>
           have H := HA.out
           clear HA
           simp only [spec_l1Read.j2] at H
           by_cases c37 : x111_34 = true
           ·subst c37
            rw [if_pos rfl] at H
            simp only [Option.some.injEq, Prod.mk.injEq] at H
            obtain ⟨rfl, rfl⟩ := H
            go_wp2
            go_ret2
            exact ⟨by first | rfl | (simp; done) | (simp [*]; done), by repeat (first | exact Drawn0.refl _ | apply Drawn0.step)⟩
           ·replace c37 := Bool.eq_false_iff.mpr c37
            subst c37
            rw [if_neg (show ¬ (false = true) by decide)] at H
            replace H := Option.bind_eq_some_iff.mp H
            obtain ⟨⟨t354, t355⟩, A380, H⟩ := H
            try dsimp only at H
            have A38 := Asd.mk A380
            clear A380
            have HC39 := Asd.mk H
            clear H
            go_upto_region 25 with (first | ((with_reducible refine gate_callee (f := 119) rfl ?_); refine gsM (some 117) rfl rfl Try.func119 (by kernel_rfl) rfl #[.int .i64 a0, .string a1, .int .i64 (wrap64 (t353 + 1))] rfl ?_; (with_reducible refine (ih kj34 (by have := HJ11.out; have := HJ34.out; omega) a0 a1 (wrap64 (t353 + 1)) t354 t355 _ A38.out).mono ?_); rintro e w' ⟨rfl, ⟨nd, rfl⟩⟩; refine ⟨_, rfl, ?_⟩))
            (try simp only [Act.put, qA, qB, qC])
            go_cut [133] (fun v133 wc => ∃ (kq : Nat) (x133_38 : Bool), v133 = .bool x133_38 ∧ Asd (spec_l1Read.j3 kq a1 t349 t352 t353 t354 t355 x133_38 = some (r1, r2)) ∧ Asd (kq ≤ kj34) ∧ Drawn0 w wc)
            case first =>
             have H := HC39.out
             clear HC39
             by_cases c40 : t355 < 0
             ·rw [if_pos c40] at H
              have c40b0 : decide (t355 < 0) = true := decide_eq_true c40
              clear c40
              (first | rw [c40b0] | (simp only [i64_w, i32_w]; rw [c40b0]) | skip)
              have H' := Asd.mk H
              clear H
              go_wp2
              go_meet
              case rel => exact ⟨_, (true), (by first | rfl | (simp; done) | (simp [*]; done)), H', ⟨by have := HJ11.out; have := HJ34.out; first | omega | exact Nat.le_refl _⟩, by repeat (first | exact Drawn0.refl _ | apply Drawn0.step)⟩
             ·rw [if_neg c40] at H
              have c40b0 : decide (t355 < 0) = false := decide_eq_false c40
              clear c40
              (first | rw [c40b0] | (simp only [i64_w, i32_w]; rw [c40b0]) | skip)
              by_cases c41 : t355 ≥ (a1.size : Int)
              ·rw [if_pos c41] at H
               have c41b0 : decide ((a1.size : Int) ≤ t355) = true := decide_eq_true c41
               clear c41
               have H' := Asd.mk H
               clear H
               go_wp2
               go_meet
               case rel => exact ⟨_, (true), (by first | rfl | (simp; done) | (simp [*]; done)), H', ⟨by have := HJ11.out; have := HJ34.out; first | omega | exact Nat.le_refl _⟩, by repeat (first | exact Drawn0.refl _ | apply Drawn0.step)⟩
              ·rw [if_neg c41] at H
               have c41b0 : decide ((a1.size : Int) ≤ t355) = false := decide_eq_false c41
               clear c41
               by_cases c42 : 0 ≤ t355; rotate_left; (rw [if_neg c42] at H; exact absurd H (by simp))
               rw [if_pos c42] at H
               have c42b0 : decide (0 ≤ t355) = true := decide_eq_true c42
               clear c42
               by_cases c43 : t355 < (a1.size : Int); rotate_left; (rw [if_neg c43] at H; exact absurd H (by simp))
               rw [if_pos c43] at H
               have c43b0 : decide (t355 < (a1.size : Int)) = true := decide_eq_true c43
               clear c43
               have H' := Asd.mk H
               clear H
               have p44 : 0 ≤ (t355 : Int) := odt
               have q44 : t355 < (a1.size : Int) := odt
               have hx44 := bt_at a1 t355
               replace p44 := eq_true p44
               replace q44 := eq_true q44
               go_wp2
               go_meet
               case rel => exact ⟨_, (((bt a1 t355) != 41)), (by first | rfl | (simp; done) | (simp [*]; done)), H', ⟨by have := HJ11.out; have := HJ34.out; first | omega | exact Nat.le_refl _⟩, by repeat (first | exact Drawn0.refl _ | apply Drawn0.step)⟩
            case rest =>
             clear HC39
             obtain ⟨kq, x133_38, rfl, HA, HJ38, ⟨mc38, rfl⟩⟩ := hcut
             cases kq with
             | zero => exact absurd HA.out (by simp [spec_l1Read.j3])
             | succ kj38 =>
              have H := HA.out
              clear HA
              simp only [spec_l1Read.j3] at H
              by_cases c45 : x133_38 = true
              ·subst c45
               rw [if_pos rfl] at H
               simp only [Option.some.injEq, Prod.mk.injEq] at H
               obtain ⟨rfl, rfl⟩ := H
               go_wp2
               go_ret2
               exact ⟨by first | rfl | (simp; done) | (simp [*]; done), by repeat (first | exact Drawn0.refl _ | apply Drawn0.step)⟩
              ·replace c45 := Bool.eq_false_iff.mpr c45
               subst c45
               rw [if_neg (show ¬ (false = true) by decide)] at H
               by_cases c46 : 0 ≤ t353; rotate_left; (rw [if_neg c46] at H; exact absurd H (by simp))
               rw [if_pos c46] at H
               have c46b0 : decide (0 ≤ t353) = true := decide_eq_true c46
               clear c46
               by_cases c47 : t353 < (a1.size : Int); rotate_left; (rw [if_neg c47] at H; exact absurd H (by simp))
               rw [if_pos c47] at H
               have c47b0 : decide (t353 < (a1.size : Int)) = true := decide_eq_true c47
               clear c47
               by_cases c49 : (bt a1 t353) = 38
               ·rw [if_pos c49] at H
                have c49b0 : ((bt a1 t353) == 38) = true := beq_iff_eq.mpr c49
                have c49b1 : ((bt a1 t353) != 38) = false := bne_eq_false_iff_eq.mpr c49
                clear c49
                replace H := Option.bind_eq_some_iff.mp H
                obtain ⟨t356, A500, H⟩ := H
                try dsimp only at H
                have A50 := Asd.mk A500
                clear A500
                simp only [Option.some.injEq, Prod.mk.injEq] at H
                obtain ⟨rfl, rfl⟩ := H
                have p48 : 0 ≤ (t353 : Int) := odt
                have q48 : t353 < (a1.size : Int) := odt
                have hx48 := bt_at a1 t353
                replace p48 := eq_true p48
                replace q48 := eq_true q48
                go_wp2_with (first | ((with_reducible refine gate_callee (f := 141) rfl ?_); refine gsM (some 141) rfl rfl Try.func141 (by kernel_rfl) rfl #[.int .i64 t352, .int .i64 t354] rfl ?_; (with_reducible refine (spec_l1Both.calls kj38 t352 t354 t356 _ A50.out).mono ?_); rintro e w' ⟨rfl, ⟨nd, rfl⟩⟩; refine ⟨_, rfl, ?_⟩))
                go_ret2
                exact ⟨by first | rfl | (simp; done) | (simp [*]; done), by repeat (first | exact Drawn0.refl _ | apply Drawn0.step)⟩
               ·rw [if_neg c49] at H
                have c49b0 : ((bt a1 t353) == 38) = false := beq_eq_false_iff_ne.mpr c49
                have c49b1 : ((bt a1 t353) != 38) = true := bne_iff_ne.mpr c49
                by_cases c51 : (bt a1 t353) = 124
                ·rw [if_pos c51] at H
                 have c51b0 : ((bt a1 t353) == 124) = true := beq_iff_eq.mpr c51
                 have c51b1 : ((bt a1 t353) != 124) = false := bne_eq_false_iff_eq.mpr c51
                 clear c51
                 replace H := Option.bind_eq_some_iff.mp H
                 obtain ⟨t357, A520, H⟩ := H
                 try dsimp only at H
                 have A52 := Asd.mk A520
                 clear A520
                 simp only [Option.some.injEq, Prod.mk.injEq] at H
                 obtain ⟨rfl, rfl⟩ := H
                 have p48 : 0 ≤ (t353 : Int) := odt
                 have q48 : t353 < (a1.size : Int) := odt
                 have hx48 := bt_at a1 t353
                 replace p48 := eq_true p48
                 replace q48 := eq_true q48
                 go_wp2_with (first | ((with_reducible refine gate_callee (f := 142) rfl ?_); refine gsM (some 148) rfl rfl Try.func142 (by kernel_rfl) rfl #[.int .i64 t352, .int .i64 t354] rfl ?_; (with_reducible refine (spec_l1Either.calls kj38 t352 t354 t357 _ A52.out).mono ?_); rintro e w' ⟨rfl, ⟨nd, rfl⟩⟩; refine ⟨_, rfl, ?_⟩))
                 go_ret2
                 exact ⟨by first | rfl | (simp; done) | (simp [*]; done), by repeat (first | exact Drawn0.refl _ | apply Drawn0.step)⟩
                ·rw [if_neg c51] at H
                 have c51b0 : ((bt a1 t353) == 124) = false := beq_eq_false_iff_ne.mpr c51
                 have c51b1 : ((bt a1 t353) != 124) = true := bne_iff_ne.mpr c51
                 by_cases c53 : (bt a1 t353) = 62
                 ·rw [if_pos c53] at H
                  have c53b0 : ((bt a1 t353) == 62) = true := beq_iff_eq.mpr c53
                  have c53b1 : ((bt a1 t353) != 62) = false := bne_eq_false_iff_eq.mpr c53
                  clear c53
                  replace H := Option.bind_eq_some_iff.mp H
                  obtain ⟨t358, A540, H⟩ := H
                  try dsimp only at H
                  have A54 := Asd.mk A540
                  clear A540
                  simp only [Option.some.injEq, Prod.mk.injEq] at H
                  obtain ⟨rfl, rfl⟩ := H
                  have p48 : 0 ≤ (t353 : Int) := odt
                  have q48 : t353 < (a1.size : Int) := odt
                  have hx48 := bt_at a1 t353
                  replace p48 := eq_true p48
                  replace q48 := eq_true q48
                  go_wp2_with (first | ((with_reducible refine gate_callee (f := 142) rfl ?_); refine gsM (some 157) rfl rfl Try.func142 (by kernel_rfl) rfl #[.int .i64 (wrap64 (t349 - t352)), .int .i64 t354] rfl ?_; (with_reducible refine (spec_l1Either.calls kj38 (wrap64 (t349 - t352)) t354 t358 _ A54.out).mono ?_); rintro e w' ⟨rfl, ⟨nd, rfl⟩⟩; refine ⟨_, rfl, ?_⟩))
                  go_ret2
                  exact ⟨by first | rfl | (simp; done) | (simp [*]; done), by repeat (first | exact Drawn0.refl _ | apply Drawn0.step)⟩
                 ·rw [if_neg c53] at H
                  have c53b0 : ((bt a1 t353) == 62) = false := beq_eq_false_iff_ne.mpr c53
                  have c53b1 : ((bt a1 t353) != 62) = true := bne_iff_ne.mpr c53
                  simp only [Option.some.injEq, Prod.mk.injEq] at H
                  obtain ⟨rfl, rfl⟩ := H
                  have p48 : 0 ≤ (t353 : Int) := odt
                  have q48 : t353 < (a1.size : Int) := odt
                  have hx48 := bt_at a1 t353
                  replace p48 := eq_true p48
                  replace q48 := eq_true q48
                  go_wp2
                  go_ret2
                  exact ⟨by first | rfl | (simp; done) | (simp [*]; done), by repeat (first | exact Drawn0.refl _ | apply Drawn0.step)⟩
        ·rw [if_neg c33] at H
         have c33b0 : ((bt a1 a2) == 40) = false := beq_eq_false_iff_ne.mpr c33
         have c33b1 : ((bt a1 a2) != 40) = true := bne_iff_ne.mpr c33
         simp only [Option.some.injEq, Prod.mk.injEq] at H
         obtain ⟨rfl, rfl⟩ := H
         have p28 : 0 ≤ (a2 : Int) := odt
         have q28 : a2 < (a1.size : Int) := odt
         have hx28 := bt_at a1 a2
         replace p28 := eq_true p28
         replace q28 := eq_true q28
         have p32 : 0 ≤ (a2 : Int) := odt
         have q32 : a2 < (a1.size : Int) := odt
         have hx32 := bt_at a1 a2
         replace p32 := eq_true p32
         replace q32 := eq_true q32
         go_wp2
         go_ret2
         exact ⟨by first | rfl | (simp; done) | (simp [*]; done), by repeat (first | exact Drawn0.refl _ | apply Drawn0.step)⟩

/-! ### spec_HoldsIn: function 83 -/
def spec_HoldsIn.j0 : Nat → Int → ByteArray → Bool → Option (Int × Bool)
 | 0, _, _, _ => none
 | k + 1, x0, x1, x15 => if x15 = true then (some ((-1), false)) else ((spec_l1Read.f k x0 x1 0).bind fun bt360 => (if bt360.2 = (x1.size : Int) then (some (bt360.1, true)) else (some ((-1), false))))
def spec_HoldsIn.f (k : Nat) (a0 : Int) (a1 : ByteArray) : Option (Int × Bool) := (spec_l1In.f a0 1 3).bind fun t359 => (if t359 = true then (spec_HoldsIn.j0 k a0 a1 (decide ((a1.size : Int) > 120))) else (spec_HoldsIn.j0 k a0 a1 true))
theorem spec_HoldsIn.mono_l : ∀ k, (∀ y0 y1 y2, LeO (spec_HoldsIn.j0 k y0 y1 y2) (spec_HoldsIn.j0 (k + 1) y0 y1 y2))
 | 0 => fun _ _ _ r h => by simp [spec_HoldsIn.j0] at h
 | k + 1 => by
  have ih0 := spec_HoldsIn.mono_l k
  ·intro y0 y1 y2
   unfold spec_HoldsIn.j0
   repeat' first
   | (with_reducible first | exact ih0 _ _ _ | exact spec_l1Read.mono _ _ _ _ | exact LeO.refl _ | exact LeO.none _ | refine LeO.ite ?_ ?_ | refine LeO.bind ?_ (fun _ => ?_))
   | refine LeO.ite ?_ ?_
   | refine LeO.bind ?_ (fun _ => ?_)
theorem spec_HoldsIn.mono : ∀ a0 a1 k, LeO (spec_HoldsIn.f k a0 a1) (spec_HoldsIn.f (k + 1) a0 a1) := by
 intro a0 a1 k
 have ih0 := spec_HoldsIn.mono_l k
 unfold spec_HoldsIn.f
 repeat' first
   | (with_reducible first | exact ih0 _ _ _ | exact spec_l1Read.mono _ _ _ _ | exact LeO.refl _ | exact LeO.none _ | refine LeO.ite ?_ ?_ | refine LeO.bind ?_ (fun _ => ?_))
   | refine LeO.ite ?_ ?_
   | refine LeO.bind ?_ (fun _ => ?_)
set_option maxHeartbeats 8000000 in
set_option maxRecDepth 100000 in
theorem spec_HoldsIn.calls (k : Nat) (a0 : Int) (a1 : ByteArray) (r1 : Int) (r2 : Bool) (w : World) (h : spec_HoldsIn.f k a0 a1 = some (r1, r2)) :
  Calls Try.prog 83 #[.int .i64 a0, .string a1] w fun e w' => e = .returned (.tuple #[.int .i64 r1, .bool r2]) ∧ Drawn0 w w' := by
 have H : ((spec_l1In.f a0 1 3).bind fun t359 => (if t359 = true then (spec_HoldsIn.j0 k a0 a1 (decide ((a1.size : Int) > 120))) else (spec_HoldsIn.j0 k a0 a1 true))) = some (r1, r2) := h
 clear h
 have HC3 := Asd.mk H
 clear H
 go_enter Try.func83, Try.ntmps83
 go_upto_region 1 with (fail)
 go_cut [15] (fun v15 wc => ∃ (kq : Nat) (x15_2 : Bool), v15 = .bool x15_2 ∧ Asd (spec_HoldsIn.j0 kq a0 a1 x15_2 = some (r1, r2)) ∧ Asd (kq ≤ k) ∧ Drawn0 w wc)
 case first =>
  have H := HC3.out
  clear HC3
  replace H := Option.bind_eq_some_iff.mp H
  obtain ⟨t359, A40, H⟩ := H
  try dsimp only at H
  have A4 := Asd.mk A40
  clear A40
  by_cases c5 : t359 = true
  ·subst c5
   rw [if_pos rfl] at H
   have H' := Asd.mk H
   clear H
   go_wp2_with (first | ((with_reducible refine gate_callee (f := 72) rfl ?_); refine gsM (some 9) rfl rfl Try.func72 (by kernel_rfl) rfl #[.int .i64 a0, .int .i64 1, .int .i64 3] rfl ?_; (with_reducible refine (spec_l1In.calls a0 1 3 true _ A4.out).mono ?_); rintro e w' ⟨rfl, ⟨nd, rfl⟩⟩; refine ⟨_, rfl, ?_⟩))
   go_meet
   case rel => exact ⟨_, (decide ((a1.size : Int) > 120)), (by first | rfl | (simp; done) | (simp [*]; done)), H', ⟨by first | omega | exact Nat.le_refl _⟩, by repeat (first | exact Drawn0.refl _ | apply Drawn0.step)⟩
  ·replace c5 := Bool.eq_false_iff.mpr c5
   subst c5
   rw [if_neg (show ¬ (false = true) by decide)] at H
   have H' := Asd.mk H
   clear H
   go_wp2_with (first | ((with_reducible refine gate_callee (f := 72) rfl ?_); refine gsM (some 9) rfl rfl Try.func72 (by kernel_rfl) rfl #[.int .i64 a0, .int .i64 1, .int .i64 3] rfl ?_; (with_reducible refine (spec_l1In.calls a0 1 3 false _ A4.out).mono ?_); rintro e w' ⟨rfl, ⟨nd, rfl⟩⟩; refine ⟨_, rfl, ?_⟩))
   go_meet
   case rel => exact ⟨_, (true), (by first | rfl | (simp; done) | (simp [*]; done)), H', ⟨by first | omega | exact Nat.le_refl _⟩, by repeat (first | exact Drawn0.refl _ | apply Drawn0.step)⟩
 case rest =>
  clear HC3
  obtain ⟨kq, x15_2, rfl, HA, HJ2, ⟨mc2, rfl⟩⟩ := hcut
  cases kq with
  | zero => exact absurd HA.out (by simp [spec_HoldsIn.j0])
  | succ kj2 =>
   have H := HA.out
   clear HA
   simp only [spec_HoldsIn.j0] at H
   by_cases c6 : x15_2 = true
   ·subst c6
    rw [if_pos rfl] at H
    simp only [Option.some.injEq, Prod.mk.injEq] at H
    obtain ⟨rfl, rfl⟩ := H
    go_wp2
    go_ret2
    exact ⟨by first | rfl | (simp; done) | (simp [*]; done), by repeat (first | exact Drawn0.refl _ | apply Drawn0.step)⟩
   ·replace c6 := Bool.eq_false_iff.mpr c6
    subst c6
    rw [if_neg (show ¬ (false = true) by decide)] at H
    replace H := Option.bind_eq_some_iff.mp H
    obtain ⟨⟨t360, t361⟩, A70, H⟩ := H
    try dsimp only at H
    have A7 := Asd.mk A70
    clear A70
    by_cases c8 : t361 = (a1.size : Int)
    ·rw [if_pos c8] at H
     have c8b0 : (t361 == (a1.size : Int)) = true := beq_iff_eq.mpr c8
     have c8b1 : (t361 != (a1.size : Int)) = false := bne_eq_false_iff_eq.mpr c8
     clear c8
     simp only [Option.some.injEq, Prod.mk.injEq] at H
     obtain ⟨rfl, rfl⟩ := H
     go_wp2_with (first | ((with_reducible refine gate_callee (f := 119) rfl ?_); refine gsM (some 19) rfl rfl Try.func119 (by kernel_rfl) rfl #[.int .i64 a0, .string a1, .int .i64 0] rfl ?_; (with_reducible refine (spec_l1Read.calls kj2 a0 a1 0 t360 t361 _ A7.out).mono ?_); rintro e w' ⟨rfl, ⟨nd, rfl⟩⟩; refine ⟨_, rfl, ?_⟩))
     go_ret2
     exact ⟨by first | rfl | (simp; done) | (simp [*]; done), by repeat (first | exact Drawn0.refl _ | apply Drawn0.step)⟩
    ·rw [if_neg c8] at H
     have c8b0 : (t361 == (a1.size : Int)) = false := beq_eq_false_iff_ne.mpr c8
     have c8b1 : (t361 != (a1.size : Int)) = true := bne_iff_ne.mpr c8
     simp only [Option.some.injEq, Prod.mk.injEq] at H
     obtain ⟨rfl, rfl⟩ := H
     go_wp2_with (first | ((with_reducible refine gate_callee (f := 119) rfl ?_); refine gsM (some 19) rfl rfl Try.func119 (by kernel_rfl) rfl #[.int .i64 a0, .string a1, .int .i64 0] rfl ?_; (with_reducible refine (spec_l1Read.calls kj2 a0 a1 0 t360 t361 _ A7.out).mono ?_); rintro e w' ⟨rfl, ⟨nd, rfl⟩⟩; refine ⟨_, rfl, ?_⟩))
     go_ret2
     exact ⟨by first | rfl | (simp; done) | (simp [*]; done), by repeat (first | exact Drawn0.refl _ | apply Drawn0.step)⟩

end Go.Proofs.Ytihgpkohglcijaa.P
