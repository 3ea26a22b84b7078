-- Written by a program of this session (wip/hook.py), which runs the kit's printer; Lean checks it.
import Derived.Test.YtihgpkohglcijaaPx0
namespace Go.Proofs.Ytihgpkohglcijaa.P
open Go.RowKit Go.Proofs.YtihgpkohglcijaaW.PrintWords Go.Proofs.YtihgpkohglcijaaW.PrintLast Go.Proofs.YtihgpkohglcijaaW.PrintMore
attribute [local go_sem] max2_int min2_int max_two min_two max_three min_three max_four min_four   -- for this text's walks alone
set_option linter.unusedVariables false
set_option linter.unusedSimpArgs false

/-! ### impl_worldText: function 122 -/
def impl_worldText.f : Nat → Int → Int → Int → Option (ByteArray)
  | 0, _, _, _ => none
  | k + 1, a0, a1, a2 => if 0 ≤ a2 then (if a2 ≤ (wrap64 (a2 + 1)) then (if (wrap64 (a2 + 1)) ≤ 3 then (if (Go.bits .and .i64 (shr .i64 a1 a2) 1) = 0 then (if 1 + ((⟨#[97, 98, 99]⟩ : ByteArray).extract (a2 : Int).toNat ((wrap64 (a2 + 1)) : Int).toNat).size ≤ 9223372036854775807 then (if a2 = (wrap64 (a0 - 1)) then (some ((⟨#[33]⟩ : ByteArray) ++ ((⟨#[97, 98, 99]⟩ : ByteArray).extract (a2 : Int).toNat ((wrap64 (a2 + 1)) : Int).toNat))) else (if 1 + ((⟨#[33]⟩ : ByteArray) ++ ((⟨#[97, 98, 99]⟩ : ByteArray).extract (a2 : Int).toNat ((wrap64 (a2 + 1)) : Int).toNat)).size ≤ 9223372036854775807 then (if ((⟨#[40]⟩ : ByteArray) ++ ((⟨#[33]⟩ : ByteArray) ++ ((⟨#[97, 98, 99]⟩ : ByteArray).extract (a2 : Int).toNat ((wrap64 (a2 + 1)) : Int).toNat))).size + 1 ≤ 9223372036854775807 then ((impl_worldText.f k a0 a1 (wrap64 (a2 + 1))).bind fun t208 => (if (((⟨#[40]⟩ : ByteArray) ++ ((⟨#[33]⟩ : ByteArray) ++ ((⟨#[97, 98, 99]⟩ : ByteArray).extract (a2 : Int).toNat ((wrap64 (a2 + 1)) : Int).toNat))) ++ (⟨#[38]⟩ : ByteArray)).size + t208.size ≤ 9223372036854775807 then (if ((((⟨#[40]⟩ : ByteArray) ++ ((⟨#[33]⟩ : ByteArray) ++ ((⟨#[97, 98, 99]⟩ : ByteArray).extract (a2 : Int).toNat ((wrap64 (a2 + 1)) : Int).toNat))) ++ (⟨#[38]⟩ : ByteArray)) ++ t208).size + 1 ≤ 9223372036854775807 then (some (((((⟨#[40]⟩ : ByteArray) ++ ((⟨#[33]⟩ : ByteArray) ++ ((⟨#[97, 98, 99]⟩ : ByteArray).extract (a2 : Int).toNat ((wrap64 (a2 + 1)) : Int).toNat))) ++ (⟨#[38]⟩ : ByteArray)) ++ t208) ++ (⟨#[41]⟩ : ByteArray))) else (none)) else (none))) else (none)) else (none))) else (none)) else (if a2 = (wrap64 (a0 - 1)) then (some ((⟨#[97, 98, 99]⟩ : ByteArray).extract (a2 : Int).toNat ((wrap64 (a2 + 1)) : Int).toNat)) else (if 1 + ((⟨#[97, 98, 99]⟩ : ByteArray).extract (a2 : Int).toNat ((wrap64 (a2 + 1)) : Int).toNat).size ≤ 9223372036854775807 then (if ((⟨#[40]⟩ : ByteArray) ++ ((⟨#[97, 98, 99]⟩ : ByteArray).extract (a2 : Int).toNat ((wrap64 (a2 + 1)) : Int).toNat)).size + 1 ≤ 9223372036854775807 then ((impl_worldText.f k a0 a1 (wrap64 (a2 + 1))).bind fun t209 => (if (((⟨#[40]⟩ : ByteArray) ++ ((⟨#[97, 98, 99]⟩ : ByteArray).extract (a2 : Int).toNat ((wrap64 (a2 + 1)) : Int).toNat)) ++ (⟨#[38]⟩ : ByteArray)).size + t209.size ≤ 9223372036854775807 then (if ((((⟨#[40]⟩ : ByteArray) ++ ((⟨#[97, 98, 99]⟩ : ByteArray).extract (a2 : Int).toNat ((wrap64 (a2 + 1)) : Int).toNat)) ++ (⟨#[38]⟩ : ByteArray)) ++ t209).size + 1 ≤ 9223372036854775807 then (some (((((⟨#[40]⟩ : ByteArray) ++ ((⟨#[97, 98, 99]⟩ : ByteArray).extract (a2 : Int).toNat ((wrap64 (a2 + 1)) : Int).toNat)) ++ (⟨#[38]⟩ : ByteArray)) ++ t209) ++ (⟨#[41]⟩ : ByteArray))) else (none)) else (none))) else (none)) else (none)))) else (none)) else (none)) else (none)
theorem impl_worldText.mono_l : ∀ k, (∀ y0 y1 y2, LeO (impl_worldText.f k y0 y1 y2) (impl_worldText.f (k + 1) y0 y1 y2))
  | 0 => fun _ _ _ r h => by simp [impl_worldText.f] at h
  | k + 1 => by
    have ih0 := impl_worldText.mono_l k
    · intro y0 y1 y2
      unfold impl_worldText.f
      repeat' first
      | (with_reducible exact ih0 _ _ _)
      | (with_reducible exact LeO.refl _)
      | (with_reducible exact LeO.none _)
      | (with_reducible refine LeO.ite ?_ ?_)
      | (with_reducible refine LeO.bind ?_ (fun _ => ?_))
      | exact ih0 _ _ _
      | exact LeO.none _
      | refine LeO.ite ?_ ?_
      | refine LeO.bind ?_ (fun _ => ?_)
theorem impl_worldText.mono : ∀ a0 a1 a2 k, LeO (impl_worldText.f k a0 a1 a2) (impl_worldText.f (k + 1) a0 a1 a2) := by
  intro a0 a1 a2 k
  have ih0 := impl_worldText.mono_l k
  exact ih0 a0 a1 a2
set_option maxHeartbeats 8000000 in
set_option maxRecDepth 100000 in
theorem impl_worldText.calls (k : Nat) : ∀ (a0 : Int) (a1 : Int) (a2 : Int) (r : ByteArray) (w : World) (h : impl_worldText.f k a0 a1 a2 = some r),
    Calls Try.prog 122 #[.int .i64 a0, .int .i64 a1, .int .i64 a2] w fun e w' => e = .returned (.string r) ∧ Drawn0 w w' := by
  induction k using Nat.strongRecOn with
  | _ k ih =>
  intro a0 a1 a2 r w h
  cases k with
  | zero => exact absurd h (by simp [impl_worldText.f])
  | succ k =>
  simp only [impl_worldText.f] at h
  have H : (if 0 ≤ a2 then (if a2 ≤ (wrap64 (a2 + 1)) then (if (wrap64 (a2 + 1)) ≤ 3 then (if (Go.bits .and .i64 (shr .i64 a1 a2) 1) = 0 then (if 1 + ((⟨#[97, 98, 99]⟩ : ByteArray).extract (a2 : Int).toNat ((wrap64 (a2 + 1)) : Int).toNat).size ≤ 9223372036854775807 then (if a2 = (wrap64 (a0 - 1)) then (some ((⟨#[33]⟩ : ByteArray) ++ ((⟨#[97, 98, 99]⟩ : ByteArray).extract (a2 : Int).toNat ((wrap64 (a2 + 1)) : Int).toNat))) else (if 1 + ((⟨#[33]⟩ : ByteArray) ++ ((⟨#[97, 98, 99]⟩ : ByteArray).extract (a2 : Int).toNat ((wrap64 (a2 + 1)) : Int).toNat)).size ≤ 9223372036854775807 then (if ((⟨#[40]⟩ : ByteArray) ++ ((⟨#[33]⟩ : ByteArray) ++ ((⟨#[97, 98, 99]⟩ : ByteArray).extract (a2 : Int).toNat ((wrap64 (a2 + 1)) : Int).toNat))).size + 1 ≤ 9223372036854775807 then ((impl_worldText.f k a0 a1 (wrap64 (a2 + 1))).bind fun t208 => (if (((⟨#[40]⟩ : ByteArray) ++ ((⟨#[33]⟩ : ByteArray) ++ ((⟨#[97, 98, 99]⟩ : ByteArray).extract (a2 : Int).toNat ((wrap64 (a2 + 1)) : Int).toNat))) ++ (⟨#[38]⟩ : ByteArray)).size + t208.size ≤ 9223372036854775807 then (if ((((⟨#[40]⟩ : ByteArray) ++ ((⟨#[33]⟩ : ByteArray) ++ ((⟨#[97, 98, 99]⟩ : ByteArray).extract (a2 : Int).toNat ((wrap64 (a2 + 1)) : Int).toNat))) ++ (⟨#[38]⟩ : ByteArray)) ++ t208).size + 1 ≤ 9223372036854775807 then (some (((((⟨#[40]⟩ : ByteArray) ++ ((⟨#[33]⟩ : ByteArray) ++ ((⟨#[97, 98, 99]⟩ : ByteArray).extract (a2 : Int).toNat ((wrap64 (a2 + 1)) : Int).toNat))) ++ (⟨#[38]⟩ : ByteArray)) ++ t208) ++ (⟨#[41]⟩ : ByteArray))) else (none)) else (none))) else (none)) else (none))) else (none)) else (if a2 = (wrap64 (a0 - 1)) then (some ((⟨#[97, 98, 99]⟩ : ByteArray).extract (a2 : Int).toNat ((wrap64 (a2 + 1)) : Int).toNat)) else (if 1 + ((⟨#[97, 98, 99]⟩ : ByteArray).extract (a2 : Int).toNat ((wrap64 (a2 + 1)) : Int).toNat).size ≤ 9223372036854775807 then (if ((⟨#[40]⟩ : ByteArray) ++ ((⟨#[97, 98, 99]⟩ : ByteArray).extract (a2 : Int).toNat ((wrap64 (a2 + 1)) : Int).toNat)).size + 1 ≤ 9223372036854775807 then ((impl_worldText.f k a0 a1 (wrap64 (a2 + 1))).bind fun t209 => (if (((⟨#[40]⟩ : ByteArray) ++ ((⟨#[97, 98, 99]⟩ : ByteArray).extract (a2 : Int).toNat ((wrap64 (a2 + 1)) : Int).toNat)) ++ (⟨#[38]⟩ : ByteArray)).size + t209.size ≤ 9223372036854775807 then (if ((((⟨#[40]⟩ : ByteArray) ++ ((⟨#[97, 98, 99]⟩ : ByteArray).extract (a2 : Int).toNat ((wrap64 (a2 + 1)) : Int).toNat)) ++ (⟨#[38]⟩ : ByteArray)) ++ t209).size + 1 ≤ 9223372036854775807 then (some (((((⟨#[40]⟩ : ByteArray) ++ ((⟨#[97, 98, 99]⟩ : ByteArray).extract (a2 : Int).toNat ((wrap64 (a2 + 1)) : Int).toNat)) ++ (⟨#[38]⟩ : ByteArray)) ++ t209) ++ (⟨#[41]⟩ : ByteArray))) else (none)) else (none))) else (none)) else (none)))) else (none)) else (none)) else (none)) = some r := h
  clear h
  by_cases c4 : 0 ≤ a2
  · rw [if_pos c4] at H
    have c4b0 := eq_true c4
    have c4b1 : decide (0 ≤ a2) = true := decide_eq_true c4
    clear c4
    by_cases c5 : a2 ≤ (wrap64 (a2 + 1))
    · rw [if_pos c5] at H
      have c5b0 := eq_true c5
      have c5b1 : decide (a2 ≤ (wrap64 (a2 + 1))) = true := decide_eq_true c5
      by_cases c6 : (wrap64 (a2 + 1)) ≤ 3
      · rw [if_pos c6] at H
        have c6b0 := eq_true c6
        have c6b1 : decide ((wrap64 (a2 + 1)) ≤ 3) = true := decide_eq_true c6
        have c7b0 := eq_true (of_decide_eq_true (by first | (with_reducible assumption) | assumption) : 0 ≤ a2)
        obtain ⟨ji8, hji8⟩ : ∃ j_ : Int, (shr .i64 a1 a2) = j_ := ⟨_, rfl⟩
        replace H : (if (Go.bits .and .i64 (ji8) 1) = 0 then (if 1 + ((⟨#[97, 98, 99]⟩ : ByteArray).extract (a2 : Int).toNat ((wrap64 (a2 + 1)) : Int).toNat).size ≤ 9223372036854775807 then (if a2 = (wrap64 (a0 - 1)) then (some ((⟨#[33]⟩ : ByteArray) ++ ((⟨#[97, 98, 99]⟩ : ByteArray).extract (a2 : Int).toNat ((wrap64 (a2 + 1)) : Int).toNat))) else (if 1 + ((⟨#[33]⟩ : ByteArray) ++ ((⟨#[97, 98, 99]⟩ : ByteArray).extract (a2 : Int).toNat ((wrap64 (a2 + 1)) : Int).toNat)).size ≤ 9223372036854775807 then (if ((⟨#[40]⟩ : ByteArray) ++ ((⟨#[33]⟩ : ByteArray) ++ ((⟨#[97, 98, 99]⟩ : ByteArray).extract (a2 : Int).toNat ((wrap64 (a2 + 1)) : Int).toNat))).size + 1 ≤ 9223372036854775807 then ((impl_worldText.f k a0 a1 (wrap64 (a2 + 1))).bind fun t208 => (if (((⟨#[40]⟩ : ByteArray) ++ ((⟨#[33]⟩ : ByteArray) ++ ((⟨#[97, 98, 99]⟩ : ByteArray).extract (a2 : Int).toNat ((wrap64 (a2 + 1)) : Int).toNat))) ++ (⟨#[38]⟩ : ByteArray)).size + t208.size ≤ 9223372036854775807 then (if ((((⟨#[40]⟩ : ByteArray) ++ ((⟨#[33]⟩ : ByteArray) ++ ((⟨#[97, 98, 99]⟩ : ByteArray).extract (a2 : Int).toNat ((wrap64 (a2 + 1)) : Int).toNat))) ++ (⟨#[38]⟩ : ByteArray)) ++ t208).size + 1 ≤ 9223372036854775807 then (some (((((⟨#[40]⟩ : ByteArray) ++ ((⟨#[33]⟩ : ByteArray) ++ ((⟨#[97, 98, 99]⟩ : ByteArray).extract (a2 : Int).toNat ((wrap64 (a2 + 1)) : Int).toNat))) ++ (⟨#[38]⟩ : ByteArray)) ++ t208) ++ (⟨#[41]⟩ : ByteArray))) else (none)) else (none))) else (none)) else (none))) else (none)) else (if a2 = (wrap64 (a0 - 1)) then (some ((⟨#[97, 98, 99]⟩ : ByteArray).extract (a2 : Int).toNat ((wrap64 (a2 + 1)) : Int).toNat)) else (if 1 + ((⟨#[97, 98, 99]⟩ : ByteArray).extract (a2 : Int).toNat ((wrap64 (a2 + 1)) : Int).toNat).size ≤ 9223372036854775807 then (if ((⟨#[40]⟩ : ByteArray) ++ ((⟨#[97, 98, 99]⟩ : ByteArray).extract (a2 : Int).toNat ((wrap64 (a2 + 1)) : Int).toNat)).size + 1 ≤ 9223372036854775807 then ((impl_worldText.f k a0 a1 (wrap64 (a2 + 1))).bind fun t209 => (if (((⟨#[40]⟩ : ByteArray) ++ ((⟨#[97, 98, 99]⟩ : ByteArray).extract (a2 : Int).toNat ((wrap64 (a2 + 1)) : Int).toNat)) ++ (⟨#[38]⟩ : ByteArray)).size + t209.size ≤ 9223372036854775807 then (if ((((⟨#[40]⟩ : ByteArray) ++ ((⟨#[97, 98, 99]⟩ : ByteArray).extract (a2 : Int).toNat ((wrap64 (a2 + 1)) : Int).toNat)) ++ (⟨#[38]⟩ : ByteArray)) ++ t209).size + 1 ≤ 9223372036854775807 then (some (((((⟨#[40]⟩ : ByteArray) ++ ((⟨#[97, 98, 99]⟩ : ByteArray).extract (a2 : Int).toNat ((wrap64 (a2 + 1)) : Int).toNat)) ++ (⟨#[38]⟩ : ByteArray)) ++ t209) ++ (⟨#[41]⟩ : ByteArray))) else (none)) else (none))) else (none)) else (none)))) = some r := by first | (rw [hji8] at H; exact H) | (simp only [hji8] at H ⊢; exact H)
        have hji8_ : (a1 / 2 ^ min a2.toNat 64) = ji8 := hji8
        have hji8z : a2 ≤ 64 → (a1 / 2 ^ a2.toNat) = ji8 := shr_small hji8
        by_cases c9 : (Go.bits .and .i64 (ji8) 1) = 0
        · rw [if_pos c9] at H
          have c9b0 : ((Go.bits .and .i64 (ji8) 1) == 0) = true := beq_iff_eq.mpr c9
          have c9b1 : ((Go.bits .and .i64 (ji8) 1) != 0) = false := bne_eq_false_iff_eq.mpr c9
          clear c9
          by_cases c10 : 1 + ((⟨#[97, 98, 99]⟩ : ByteArray).extract (a2 : Int).toNat ((wrap64 (a2 + 1)) : Int).toNat).size ≤ 9223372036854775807
          · rw [if_pos c10] at H
            have c10b0 := eq_true c10
            have c10b1 : decide (1 + ((⟨#[97, 98, 99]⟩ : ByteArray).extract (a2 : Int).toNat ((wrap64 (a2 + 1)) : Int).toNat).size ≤ 9223372036854775807) = true := decide_eq_true c10
            try have c10b2 : (9223372036854775807 < 1 + ((⟨#[97, 98, 99]⟩ : ByteArray).extract (a2 : Int).toNat ((wrap64 (a2 + 1)) : Int).toNat).size) = False := eq_false (Nat.not_lt.2 c10)
            try have c10b7 : (1 + ((wrap64 (a2 + 1)).toNat - a2.toNat) ≤ 9223372036854775807) = True := eq_true (by have h_ := c10; (try simp only [ByteArray.size_append, ByteArray.size_extract] at h_); (try have := (show (⟨#[97, 98, 99]⟩ : ByteArray).size = 3 from rfl)); (try simp only [ByteArray.size_append] at *); omega)
            try have c10b6 : (9223372036854775807 < 1 + ((wrap64 (a2 + 1)).toNat - a2.toNat)) = False := eq_false (by have h_ := c10; (try simp only [ByteArray.size_append, ByteArray.size_extract] at h_); (try have := (show (⟨#[97, 98, 99]⟩ : ByteArray).size = 3 from rfl)); (try simp only [ByteArray.size_append] at *); omega)
            by_cases c11 : a2 = (wrap64 (a0 - 1))
            · rw [if_pos c11] at H
              have c11b0 : (a2 == (wrap64 (a0 - 1))) = true := beq_iff_eq.mpr c11
              have c11b1 : (a2 != (wrap64 (a0 - 1))) = false := bne_eq_false_iff_eq.mpr c11
              clear c11
              obtain rfl := Option.some.inj H
              go_enter Try.func122, Try.ntmps122
              go_wp2
              go_ret
              exact ⟨by first | rfl | (simp; done) | (simp only [← hji8] <;> (first | rfl | simp)) | (simp [*]; done), by repeat (first | exact Drawn0.refl _ | apply Drawn0.step)⟩
            · rw [if_neg c11] at H
              have c11b0 : (a2 == (wrap64 (a0 - 1))) = false := beq_eq_false_iff_ne.mpr c11
              have c11b1 : (a2 != (wrap64 (a0 - 1))) = true := bne_iff_ne.mpr c11
              by_cases c12 : 1 + ((⟨#[33]⟩ : ByteArray) ++ ((⟨#[97, 98, 99]⟩ : ByteArray).extract (a2 : Int).toNat ((wrap64 (a2 + 1)) : Int).toNat)).size ≤ 9223372036854775807
              · rw [if_pos c12] at H
                have c12b0 := eq_true c12
                have c12b1 : decide (1 + ((⟨#[33]⟩ : ByteArray) ++ ((⟨#[97, 98, 99]⟩ : ByteArray).extract (a2 : Int).toNat ((wrap64 (a2 + 1)) : Int).toNat)).size ≤ 9223372036854775807) = true := decide_eq_true c12
                try have c12b2 : (9223372036854775807 < 1 + ((⟨#[33]⟩ : ByteArray) ++ ((⟨#[97, 98, 99]⟩ : ByteArray).extract (a2 : Int).toNat ((wrap64 (a2 + 1)) : Int).toNat)).size) = False := eq_false (Nat.not_lt.2 c12)
                try have c12b7 : (1 + (1 + ((wrap64 (a2 + 1)).toNat - a2.toNat)) ≤ 9223372036854775807) = True := eq_true (by have h_ := c12; (try simp only [ByteArray.size_append, ByteArray.size_extract] at h_); (try have := (show (⟨#[33]⟩ : ByteArray).size = 1 from rfl)); (try have := (show (⟨#[97, 98, 99]⟩ : ByteArray).size = 3 from rfl)); (try simp only [ByteArray.size_append] at *); omega)
                try have c12b6 : (9223372036854775807 < 1 + (1 + ((wrap64 (a2 + 1)).toNat - a2.toNat))) = False := eq_false (by have h_ := c12; (try simp only [ByteArray.size_append, ByteArray.size_extract] at h_); (try have := (show (⟨#[33]⟩ : ByteArray).size = 1 from rfl)); (try have := (show (⟨#[97, 98, 99]⟩ : ByteArray).size = 3 from rfl)); (try simp only [ByteArray.size_append] at *); omega)
                by_cases c13 : ((⟨#[40]⟩ : ByteArray) ++ ((⟨#[33]⟩ : ByteArray) ++ ((⟨#[97, 98, 99]⟩ : ByteArray).extract (a2 : Int).toNat ((wrap64 (a2 + 1)) : Int).toNat))).size + 1 ≤ 9223372036854775807
                · rw [if_pos c13] at H
                  have c13b0 := eq_true c13
                  have c13b1 : decide (((⟨#[40]⟩ : ByteArray) ++ ((⟨#[33]⟩ : ByteArray) ++ ((⟨#[97, 98, 99]⟩ : ByteArray).extract (a2 : Int).toNat ((wrap64 (a2 + 1)) : Int).toNat))).size + 1 ≤ 9223372036854775807) = true := decide_eq_true c13
                  try have c13b2 : (9223372036854775807 < ((⟨#[40]⟩ : ByteArray) ++ ((⟨#[33]⟩ : ByteArray) ++ ((⟨#[97, 98, 99]⟩ : ByteArray).extract (a2 : Int).toNat ((wrap64 (a2 + 1)) : Int).toNat))).size + 1) = False := eq_false (Nat.not_lt.2 c13)
                  try have c13b7 : (1 + (1 + ((wrap64 (a2 + 1)).toNat - a2.toNat)) + 1 ≤ 9223372036854775807) = True := eq_true (by have h_ := c13; (try simp only [ByteArray.size_append, ByteArray.size_extract] at h_); (try have := (show (⟨#[33]⟩ : ByteArray).size = 1 from rfl)); (try have := (show (⟨#[40]⟩ : ByteArray).size = 1 from rfl)); (try have := (show (⟨#[97, 98, 99]⟩ : ByteArray).size = 3 from rfl)); (try simp only [ByteArray.size_append] at *); omega)
                  try have c13b6 : (9223372036854775807 < 1 + (1 + ((wrap64 (a2 + 1)).toNat - a2.toNat)) + 1) = False := eq_false (by have h_ := c13; (try simp only [ByteArray.size_append, ByteArray.size_extract] at h_); (try have := (show (⟨#[33]⟩ : ByteArray).size = 1 from rfl)); (try have := (show (⟨#[40]⟩ : ByteArray).size = 1 from rfl)); (try have := (show (⟨#[97, 98, 99]⟩ : ByteArray).size = 3 from rfl)); (try simp only [ByteArray.size_append] at *); omega)
                  replace H := Option.bind_eq_some_iff.mp H
                  obtain ⟨t208, A140, H⟩ := H
                  replace H : (if (((⟨#[40]⟩ : ByteArray) ++ ((⟨#[33]⟩ : ByteArray) ++ ((⟨#[97, 98, 99]⟩ : ByteArray).extract (a2 : Int).toNat ((wrap64 (a2 + 1)) : Int).toNat))) ++ (⟨#[38]⟩ : ByteArray)).size + t208.size ≤ 9223372036854775807 then (if ((((⟨#[40]⟩ : ByteArray) ++ ((⟨#[33]⟩ : ByteArray) ++ ((⟨#[97, 98, 99]⟩ : ByteArray).extract (a2 : Int).toNat ((wrap64 (a2 + 1)) : Int).toNat))) ++ (⟨#[38]⟩ : ByteArray)) ++ t208).size + 1 ≤ 9223372036854775807 then (some (((((⟨#[40]⟩ : ByteArray) ++ ((⟨#[33]⟩ : ByteArray) ++ ((⟨#[97, 98, 99]⟩ : ByteArray).extract (a2 : Int).toNat ((wrap64 (a2 + 1)) : Int).toNat))) ++ (⟨#[38]⟩ : ByteArray)) ++ t208) ++ (⟨#[41]⟩ : ByteArray))) else (none)) else (none)) = some r := H
                  have A14 := Aside0.mk A140
                  clear A140
                  by_cases c15 : (((⟨#[40]⟩ : ByteArray) ++ ((⟨#[33]⟩ : ByteArray) ++ ((⟨#[97, 98, 99]⟩ : ByteArray).extract (a2 : Int).toNat ((wrap64 (a2 + 1)) : Int).toNat))) ++ (⟨#[38]⟩ : ByteArray)).size + t208.size ≤ 9223372036854775807
                  · rw [if_pos c15] at H
                    have c15b0 := eq_true c15
                    have c15b1 : decide ((((⟨#[40]⟩ : ByteArray) ++ ((⟨#[33]⟩ : ByteArray) ++ ((⟨#[97, 98, 99]⟩ : ByteArray).extract (a2 : Int).toNat ((wrap64 (a2 + 1)) : Int).toNat))) ++ (⟨#[38]⟩ : ByteArray)).size + t208.size ≤ 9223372036854775807) = true := decide_eq_true c15
                    try have c15b2 : (9223372036854775807 < (((⟨#[40]⟩ : ByteArray) ++ ((⟨#[33]⟩ : ByteArray) ++ ((⟨#[97, 98, 99]⟩ : ByteArray).extract (a2 : Int).toNat ((wrap64 (a2 + 1)) : Int).toNat))) ++ (⟨#[38]⟩ : ByteArray)).size + t208.size) = False := eq_false (Nat.not_lt.2 c15)
                    try have c15b7 : (1 + (1 + ((wrap64 (a2 + 1)).toNat - a2.toNat)) + 1 + t208.size ≤ 9223372036854775807) = True := eq_true (by have h_ := c15; (try simp only [ByteArray.size_append, ByteArray.size_extract] at h_); (try have := (show (⟨#[33]⟩ : ByteArray).size = 1 from rfl)); (try have := (show (⟨#[38]⟩ : ByteArray).size = 1 from rfl)); (try have := (show (⟨#[40]⟩ : ByteArray).size = 1 from rfl)); (try have := (show (⟨#[97, 98, 99]⟩ : ByteArray).size = 3 from rfl)); (try simp only [ByteArray.size_append] at *); omega)
                    try have c15b6 : (9223372036854775807 < 1 + (1 + ((wrap64 (a2 + 1)).toNat - a2.toNat)) + 1 + t208.size) = False := eq_false (by have h_ := c15; (try simp only [ByteArray.size_append, ByteArray.size_extract] at h_); (try have := (show (⟨#[33]⟩ : ByteArray).size = 1 from rfl)); (try have := (show (⟨#[38]⟩ : ByteArray).size = 1 from rfl)); (try have := (show (⟨#[40]⟩ : ByteArray).size = 1 from rfl)); (try have := (show (⟨#[97, 98, 99]⟩ : ByteArray).size = 3 from rfl)); (try simp only [ByteArray.size_append] at *); omega)
                    by_cases c16 : ((((⟨#[40]⟩ : ByteArray) ++ ((⟨#[33]⟩ : ByteArray) ++ ((⟨#[97, 98, 99]⟩ : ByteArray).extract (a2 : Int).toNat ((wrap64 (a2 + 1)) : Int).toNat))) ++ (⟨#[38]⟩ : ByteArray)) ++ t208).size + 1 ≤ 9223372036854775807
                    · rw [if_pos c16] at H
                      have c16b0 := eq_true c16
                      have c16b1 : decide (((((⟨#[40]⟩ : ByteArray) ++ ((⟨#[33]⟩ : ByteArray) ++ ((⟨#[97, 98, 99]⟩ : ByteArray).extract (a2 : Int).toNat ((wrap64 (a2 + 1)) : Int).toNat))) ++ (⟨#[38]⟩ : ByteArray)) ++ t208).size + 1 ≤ 9223372036854775807) = true := decide_eq_true c16
                      try have c16b2 : (9223372036854775807 < ((((⟨#[40]⟩ : ByteArray) ++ ((⟨#[33]⟩ : ByteArray) ++ ((⟨#[97, 98, 99]⟩ : ByteArray).extract (a2 : Int).toNat ((wrap64 (a2 + 1)) : Int).toNat))) ++ (⟨#[38]⟩ : ByteArray)) ++ t208).size + 1) = False := eq_false (Nat.not_lt.2 c16)
                      try have c16b7 : (1 + (1 + ((wrap64 (a2 + 1)).toNat - a2.toNat)) + 1 + t208.size + 1 ≤ 9223372036854775807) = True := eq_true (by have h_ := c16; (try simp only [ByteArray.size_append, ByteArray.size_extract] at h_); (try have := (show (⟨#[33]⟩ : ByteArray).size = 1 from rfl)); (try have := (show (⟨#[38]⟩ : ByteArray).size = 1 from rfl)); (try have := (show (⟨#[40]⟩ : ByteArray).size = 1 from rfl)); (try have := (show (⟨#[97, 98, 99]⟩ : ByteArray).size = 3 from rfl)); (try simp only [ByteArray.size_append] at *); omega)
                      try have c16b6 : (9223372036854775807 < 1 + (1 + ((wrap64 (a2 + 1)).toNat - a2.toNat)) + 1 + t208.size + 1) = False := eq_false (by have h_ := c16; (try simp only [ByteArray.size_append, ByteArray.size_extract] at h_); (try have := (show (⟨#[33]⟩ : ByteArray).size = 1 from rfl)); (try have := (show (⟨#[38]⟩ : ByteArray).size = 1 from rfl)); (try have := (show (⟨#[40]⟩ : ByteArray).size = 1 from rfl)); (try have := (show (⟨#[97, 98, 99]⟩ : ByteArray).size = 3 from rfl)); (try simp only [ByteArray.size_append] at *); omega)
                      obtain rfl := Option.some.inj H
                      go_enter Try.func122, Try.ntmps122
                      go_wp2_with (first | ((with_reducible refine gate_callee (f := 122) rfl ?_); refine goesL_ (some 31) rfl rfl Try.func122 (by kernel_rfl) rfl #[.int .i64 a0, .int .i64 a1, .int .i64 (wrap64 (a2 + 1))] rfl (by (try simp only [List.map_toArray, List.map_cons, List.map_nil]); first | done | rfl | (simp only [List.length_drop, List.length_take]; rfl)) ?_; (with_reducible refine (ih k (by omega) a0 a1 (wrap64 (a2 + 1)) t208 _ A14.out).mono ?_); rintro e w' ⟨rfl, ⟨nd, rfl⟩⟩; refine ⟨_, rfl, ?_⟩))
                      go_ret
                      exact ⟨by first | rfl | (simp; done) | (simp only [← hji8] <;> (first | rfl | simp)) | (simp [*]; done), by repeat (first | exact Drawn0.refl _ | apply Drawn0.step)⟩
                    · rw [if_neg c16] at H
                      exact absurd H (by simp)
                  · rw [if_neg c15] at H
                    exact absurd H (by simp)
                · rw [if_neg c13] at H
                  exact absurd H (by simp)
              · rw [if_neg c12] at H
                exact absurd H (by simp)
          · rw [if_neg c10] at H
            exact absurd H (by simp)
        · rw [if_neg c9] at H
          have c9b0 : ((Go.bits .and .i64 (ji8) 1) == 0) = false := beq_eq_false_iff_ne.mpr c9
          have c9b1 : ((Go.bits .and .i64 (ji8) 1) != 0) = true := bne_iff_ne.mpr c9
          by_cases c17 : a2 = (wrap64 (a0 - 1))
          · rw [if_pos c17] at H
            have c17b0 : (a2 == (wrap64 (a0 - 1))) = true := beq_iff_eq.mpr c17
            have c17b1 : (a2 != (wrap64 (a0 - 1))) = false := bne_eq_false_iff_eq.mpr c17
            clear c17
            obtain rfl := Option.some.inj H
            go_enter Try.func122, Try.ntmps122
            go_wp2
            go_ret
            exact ⟨by first | rfl | (simp; done) | (simp only [← hji8] <;> (first | rfl | simp)) | (simp [*]; done), by repeat (first | exact Drawn0.refl _ | apply Drawn0.step)⟩
          · rw [if_neg c17] at H
            have c17b0 : (a2 == (wrap64 (a0 - 1))) = false := beq_eq_false_iff_ne.mpr c17
            have c17b1 : (a2 != (wrap64 (a0 - 1))) = true := bne_iff_ne.mpr c17
            by_cases c18 : 1 + ((⟨#[97, 98, 99]⟩ : ByteArray).extract (a2 : Int).toNat ((wrap64 (a2 + 1)) : Int).toNat).size ≤ 9223372036854775807
            · rw [if_pos c18] at H
              have c18b0 := eq_true c18
              have c18b1 : decide (1 + ((⟨#[97, 98, 99]⟩ : ByteArray).extract (a2 : Int).toNat ((wrap64 (a2 + 1)) : Int).toNat).size ≤ 9223372036854775807) = true := decide_eq_true c18
              try have c18b2 : (9223372036854775807 < 1 + ((⟨#[97, 98, 99]⟩ : ByteArray).extract (a2 : Int).toNat ((wrap64 (a2 + 1)) : Int).toNat).size) = False := eq_false (Nat.not_lt.2 c18)
              try have c18b7 : (1 + ((wrap64 (a2 + 1)).toNat - a2.toNat) ≤ 9223372036854775807) = True := eq_true (by have h_ := c18; (try simp only [ByteArray.size_append, ByteArray.size_extract] at h_); (try have := (show (⟨#[97, 98, 99]⟩ : ByteArray).size = 3 from rfl)); (try simp only [ByteArray.size_append] at *); omega)
              try have c18b6 : (9223372036854775807 < 1 + ((wrap64 (a2 + 1)).toNat - a2.toNat)) = False := eq_false (by have h_ := c18; (try simp only [ByteArray.size_append, ByteArray.size_extract] at h_); (try have := (show (⟨#[97, 98, 99]⟩ : ByteArray).size = 3 from rfl)); (try simp only [ByteArray.size_append] at *); omega)
              by_cases c19 : ((⟨#[40]⟩ : ByteArray) ++ ((⟨#[97, 98, 99]⟩ : ByteArray).extract (a2 : Int).toNat ((wrap64 (a2 + 1)) : Int).toNat)).size + 1 ≤ 9223372036854775807
              · rw [if_pos c19] at H
                have c19b0 := eq_true c19
                have c19b1 : decide (((⟨#[40]⟩ : ByteArray) ++ ((⟨#[97, 98, 99]⟩ : ByteArray).extract (a2 : Int).toNat ((wrap64 (a2 + 1)) : Int).toNat)).size + 1 ≤ 9223372036854775807) = true := decide_eq_true c19
                try have c19b2 : (9223372036854775807 < ((⟨#[40]⟩ : ByteArray) ++ ((⟨#[97, 98, 99]⟩ : ByteArray).extract (a2 : Int).toNat ((wrap64 (a2 + 1)) : Int).toNat)).size + 1) = False := eq_false (Nat.not_lt.2 c19)
                try have c19b7 : (1 + ((wrap64 (a2 + 1)).toNat - a2.toNat) + 1 ≤ 9223372036854775807) = True := eq_true (by have h_ := c19; (try simp only [ByteArray.size_append, ByteArray.size_extract] at h_); (try have := (show (⟨#[40]⟩ : ByteArray).size = 1 from rfl)); (try have := (show (⟨#[97, 98, 99]⟩ : ByteArray).size = 3 from rfl)); (try simp only [ByteArray.size_append] at *); omega)
                try have c19b6 : (9223372036854775807 < 1 + ((wrap64 (a2 + 1)).toNat - a2.toNat) + 1) = False := eq_false (by have h_ := c19; (try simp only [ByteArray.size_append, ByteArray.size_extract] at h_); (try have := (show (⟨#[40]⟩ : ByteArray).size = 1 from rfl)); (try have := (show (⟨#[97, 98, 99]⟩ : ByteArray).size = 3 from rfl)); (try simp only [ByteArray.size_append] at *); omega)
                replace H := Option.bind_eq_some_iff.mp H
                obtain ⟨t209, A200, H⟩ := H
                replace H : (if (((⟨#[40]⟩ : ByteArray) ++ ((⟨#[97, 98, 99]⟩ : ByteArray).extract (a2 : Int).toNat ((wrap64 (a2 + 1)) : Int).toNat)) ++ (⟨#[38]⟩ : ByteArray)).size + t209.size ≤ 9223372036854775807 then (if ((((⟨#[40]⟩ : ByteArray) ++ ((⟨#[97, 98, 99]⟩ : ByteArray).extract (a2 : Int).toNat ((wrap64 (a2 + 1)) : Int).toNat)) ++ (⟨#[38]⟩ : ByteArray)) ++ t209).size + 1 ≤ 9223372036854775807 then (some (((((⟨#[40]⟩ : ByteArray) ++ ((⟨#[97, 98, 99]⟩ : ByteArray).extract (a2 : Int).toNat ((wrap64 (a2 + 1)) : Int).toNat)) ++ (⟨#[38]⟩ : ByteArray)) ++ t209) ++ (⟨#[41]⟩ : ByteArray))) else (none)) else (none)) = some r := H
                have A20 := Aside0.mk A200
                clear A200
                by_cases c21 : (((⟨#[40]⟩ : ByteArray) ++ ((⟨#[97, 98, 99]⟩ : ByteArray).extract (a2 : Int).toNat ((wrap64 (a2 + 1)) : Int).toNat)) ++ (⟨#[38]⟩ : ByteArray)).size + t209.size ≤ 9223372036854775807
                · rw [if_pos c21] at H
                  have c21b0 := eq_true c21
                  have c21b1 : decide ((((⟨#[40]⟩ : ByteArray) ++ ((⟨#[97, 98, 99]⟩ : ByteArray).extract (a2 : Int).toNat ((wrap64 (a2 + 1)) : Int).toNat)) ++ (⟨#[38]⟩ : ByteArray)).size + t209.size ≤ 9223372036854775807) = true := decide_eq_true c21
                  try have c21b2 : (9223372036854775807 < (((⟨#[40]⟩ : ByteArray) ++ ((⟨#[97, 98, 99]⟩ : ByteArray).extract (a2 : Int).toNat ((wrap64 (a2 + 1)) : Int).toNat)) ++ (⟨#[38]⟩ : ByteArray)).size + t209.size) = False := eq_false (Nat.not_lt.2 c21)
                  try have c21b7 : (1 + ((wrap64 (a2 + 1)).toNat - a2.toNat) + 1 + t209.size ≤ 9223372036854775807) = True := eq_true (by have h_ := c21; (try simp only [ByteArray.size_append, ByteArray.size_extract] at h_); (try have := (show (⟨#[38]⟩ : ByteArray).size = 1 from rfl)); (try have := (show (⟨#[40]⟩ : ByteArray).size = 1 from rfl)); (try have := (show (⟨#[97, 98, 99]⟩ : ByteArray).size = 3 from rfl)); (try simp only [ByteArray.size_append] at *); omega)
                  try have c21b6 : (9223372036854775807 < 1 + ((wrap64 (a2 + 1)).toNat - a2.toNat) + 1 + t209.size) = False := eq_false (by have h_ := c21; (try simp only [ByteArray.size_append, ByteArray.size_extract] at h_); (try have := (show (⟨#[38]⟩ : ByteArray).size = 1 from rfl)); (try have := (show (⟨#[40]⟩ : ByteArray).size = 1 from rfl)); (try have := (show (⟨#[97, 98, 99]⟩ : ByteArray).size = 3 from rfl)); (try simp only [ByteArray.size_append] at *); omega)
                  by_cases c22 : ((((⟨#[40]⟩ : ByteArray) ++ ((⟨#[97, 98, 99]⟩ : ByteArray).extract (a2 : Int).toNat ((wrap64 (a2 + 1)) : Int).toNat)) ++ (⟨#[38]⟩ : ByteArray)) ++ t209).size + 1 ≤ 9223372036854775807
                  · rw [if_pos c22] at H
                    have c22b0 := eq_true c22
                    have c22b1 : decide (((((⟨#[40]⟩ : ByteArray) ++ ((⟨#[97, 98, 99]⟩ : ByteArray).extract (a2 : Int).toNat ((wrap64 (a2 + 1)) : Int).toNat)) ++ (⟨#[38]⟩ : ByteArray)) ++ t209).size + 1 ≤ 9223372036854775807) = true := decide_eq_true c22
                    try have c22b2 : (9223372036854775807 < ((((⟨#[40]⟩ : ByteArray) ++ ((⟨#[97, 98, 99]⟩ : ByteArray).extract (a2 : Int).toNat ((wrap64 (a2 + 1)) : Int).toNat)) ++ (⟨#[38]⟩ : ByteArray)) ++ t209).size + 1) = False := eq_false (Nat.not_lt.2 c22)
                    try have c22b7 : (1 + ((wrap64 (a2 + 1)).toNat - a2.toNat) + 1 + t209.size + 1 ≤ 9223372036854775807) = True := eq_true (by have h_ := c22; (try simp only [ByteArray.size_append, ByteArray.size_extract] at h_); (try have := (show (⟨#[38]⟩ : ByteArray).size = 1 from rfl)); (try have := (show (⟨#[40]⟩ : ByteArray).size = 1 from rfl)); (try have := (show (⟨#[97, 98, 99]⟩ : ByteArray).size = 3 from rfl)); (try simp only [ByteArray.size_append] at *); omega)
                    try have c22b6 : (9223372036854775807 < 1 + ((wrap64 (a2 + 1)).toNat - a2.toNat) + 1 + t209.size + 1) = False := eq_false (by have h_ := c22; (try simp only [ByteArray.size_append, ByteArray.size_extract] at h_); (try have := (show (⟨#[38]⟩ : ByteArray).size = 1 from rfl)); (try have := (show (⟨#[40]⟩ : ByteArray).size = 1 from rfl)); (try have := (show (⟨#[97, 98, 99]⟩ : ByteArray).size = 3 from rfl)); (try simp only [ByteArray.size_append] at *); omega)
                    obtain rfl := Option.some.inj H
                    go_enter Try.func122, Try.ntmps122
                    go_wp2_with (first | ((with_reducible refine gate_callee (f := 122) rfl ?_); refine goesL_ (some 31) rfl rfl Try.func122 (by kernel_rfl) rfl #[.int .i64 a0, .int .i64 a1, .int .i64 (wrap64 (a2 + 1))] rfl (by (try simp only [List.map_toArray, List.map_cons, List.map_nil]); first | done | rfl | (simp only [List.length_drop, List.length_take]; rfl)) ?_; (with_reducible refine (ih k (by omega) a0 a1 (wrap64 (a2 + 1)) t209 _ A20.out).mono ?_); rintro e w' ⟨rfl, ⟨nd, rfl⟩⟩; refine ⟨_, rfl, ?_⟩))
                    go_ret
                    exact ⟨by first | rfl | (simp; done) | (simp only [← hji8] <;> (first | rfl | simp)) | (simp [*]; done), by repeat (first | exact Drawn0.refl _ | apply Drawn0.step)⟩
                  · rw [if_neg c22] at H
                    exact absurd H (by simp)
                · rw [if_neg c21] at H
                  exact absurd H (by simp)
              · rw [if_neg c19] at H
                exact absurd H (by simp)
            · rw [if_neg c18] at H
              exact absurd H (by simp)
      · rw [if_neg c6] at H
        exact absurd H (by simp)
    · rw [if_neg c5] at H
      exact absurd H (by simp)
  · rw [if_neg c4] at H
    exact absurd H (by simp)

end Go.Proofs.Ytihgpkohglcijaa.P
