-- Written by a program of this session (wip/hook.py), which runs the kit's printer; Lean checks it.
import Derived.Test.YtihgpkohglcijaaPx0
import Derived.Test.YtihgpkohglcijaaPx2
namespace Go.Proofs.Ytihgpkohglcijaa.P
open Go.RowKit Go.Proofs.YtihgpkohglcijaaW.PrintWords Go.Proofs.YtihgpkohglcijaaW.PrintLast Go.Proofs.YtihgpkohglcijaaW.PrintMore
attribute [local go_sem] max2_int min2_int max_two min_two max_three min_three max_four min_four   -- for this text's walks alone
set_option linter.unusedVariables false
set_option linter.unusedSimpArgs false

/-! ### spec_DrawReadRule: function 35 -/
def spec_DrawReadRule.f (k : Nat) (l0 : List Int) : Option (Int × ByteArray) := (spec_l20Open.f l0).bind fun bt149 => ((spec_l20Things.f k bt149.1 bt149.2 14).bind fun bt152 => ((spec_l20Sentence.f k bt149.1 bt152.2 bt152.1 2).bind fun bt154 => (if bt154.1.size + 2 ≤ 9223372036854775807 then ((spec_l20Sentence.f k bt149.1 bt154.2 bt152.1 2).bind fun bt156 => (if (bt154.1 ++ (⟨#[45, 62]⟩ : ByteArray)).size + bt156.1.size ≤ 9223372036854775807 then ((spec_l20Rd_odd.f k bt149.1 bt156.2 3).bind fun bt158 => (if bt158.1 = true then ((spec_l20Rd_pick.f k bt149.1 bt158.2 (((bt154.1 ++ (⟨#[45, 62]⟩ : ByteArray)) ++ bt156.1).size : Int)).bind fun bt160 => (if 0 ≤ bt160.1 then (if bt160.1 ≤ (((bt154.1 ++ (⟨#[45, 62]⟩ : ByteArray)) ++ bt156.1).size : Int) then ((some (([(⟨#[]⟩ : ByteArray), (⟨#[45]⟩ : ByteArray), (⟨#[62]⟩ : ByteArray), (⟨#[97]⟩ : ByteArray), (⟨#[40]⟩ : ByteArray)] : List ByteArray) : List ByteArray)).bind fun y162 => ((spec_l20Rd_pick.f k bt149.1 bt160.2 5).bind fun bt165 => (if 0 ≤ bt165.1 then (if bt165.1 < (y162.length : Int) then (if (((bt154.1 ++ (⟨#[45, 62]⟩ : ByteArray)) ++ bt156.1).extract 0 (bt160.1 : Int).toNat).size + (rdOf ByteArray.empty y162 bt165.1).size ≤ 9223372036854775807 then (if 0 ≤ (wrap64 (bt160.1 + 1)) then (if (wrap64 (bt160.1 + 1)) ≤ (((bt154.1 ++ (⟨#[45, 62]⟩ : ByteArray)) ++ bt156.1).size : Int) then (if ((((bt154.1 ++ (⟨#[45, 62]⟩ : ByteArray)) ++ bt156.1).extract 0 (bt160.1 : Int).toNat) ++ (rdOf ByteArray.empty y162 bt165.1)).size + (((bt154.1 ++ (⟨#[45, 62]⟩ : ByteArray)) ++ bt156.1).extract ((wrap64 (bt160.1 + 1)) : Int).toNat ((bt154.1 ++ (⟨#[45, 62]⟩ : ByteArray)) ++ bt156.1).size).size ≤ 9223372036854775807 then (some (bt152.1, ((((bt154.1 ++ (⟨#[45, 62]⟩ : ByteArray)) ++ bt156.1).extract 0 (bt160.1 : Int).toNat) ++ (rdOf ByteArray.empty y162 bt165.1)) ++ (((bt154.1 ++ (⟨#[45, 62]⟩ : ByteArray)) ++ bt156.1).extract ((wrap64 (bt160.1 + 1)) : Int).toNat ((bt154.1 ++ (⟨#[45, 62]⟩ : ByteArray)) ++ bt156.1).size))) else (none)) else (none)) else (none)) else (none)) else (none)) else (none)))) else (none)) else (none))) else (some (bt152.1, (bt154.1 ++ (⟨#[45, 62]⟩ : ByteArray)) ++ bt156.1)))) else (none))) else (none))))
theorem spec_DrawReadRule.mono : ∀ a0 k, LeO (spec_DrawReadRule.f k a0) (spec_DrawReadRule.f (k + 1) a0) := by
  intro a0 k
  unfold spec_DrawReadRule.f
  repeat' first
      | (with_reducible exact spec_l20Rd_odd.mono _ _ _ _)
      | (with_reducible exact spec_l20Rd_pick.mono _ _ _ _)
      | (with_reducible exact spec_l20Sentence.mono _ _ _ _ _)
      | (with_reducible exact spec_l20Things.mono _ _ _ _)
      | (with_reducible exact LeO.refl _)
      | (with_reducible exact LeO.none _)
      | (with_reducible refine LeO.ite ?_ ?_)
      | (with_reducible refine LeO.bind ?_ (fun _ => ?_))
      | exact spec_l20Rd_odd.mono _ _ _ _
      | exact spec_l20Rd_pick.mono _ _ _ _
      | exact spec_l20Sentence.mono _ _ _ _ _
      | exact spec_l20Things.mono _ _ _ _
      | exact LeO.none _
      | refine LeO.ite ?_ ?_
      | refine LeO.bind ?_ (fun _ => ?_)
def spec_DrawReadRule.T6 : Bool × List (List Nat × List Nat) := (true, [([], []), ([], []), ([], []), ([1, 2], [1, 2]), ([], []), ([], []), ([5], [5]), ([4, 6], [4, 6]), ([7], [7]), ([3, 8], [3, 8]), ([], []), ([], []), ([11], [11]), ([10, 12], [10, 12]), ([9, 13], [9, 13]), ([0, 6, 0], [0]), ([14, 15, 0, 1, 2, 3, 4, 5, 6, 7, 8, 9, 10, 11, 12, 13, 14, 15], [14])])
def spec_DrawReadRule.B6 : List Nat := [0, 0, 0, 6, 0, 0, 32, 112, 240, 510, 0, 0, 2048, 7168, 16382, 97, 65535]
theorem spec_DrawReadRule.tab6 : rtab .any (opsOf Try.f35 6) = spec_DrawReadRule.T6 := by kernel_rfl
theorem spec_DrawReadRule.bits6 : waitsOk spec_DrawReadRule.T6.2 spec_DrawReadRule.B6 = true := by kernel_rfl
set_option maxHeartbeats 8000000 in
set_option maxRecDepth 100000 in
theorem spec_DrawReadRule.calls (k : Nat) (A0 : Option Addr) (c0 : Nat) (l0 : List Int) (r1 : Int) (r2 : ByteArray) (w : World) (hr0 : Kd.C (Kd.int .u8) w A0 l0.length l0) (hc0 : l0.length ≤ c0) (h : spec_DrawReadRule.f k l0 = some (r1, r2)) :
    Calls Try.prog 35 #[.slice A0 l0.length c0] w fun e w' => e = .returned (.tuple #[.int .i64 r1, .string r2]) ∧ Below w.heap.size w w' := by
  have HR0 := Aside0.mk hr0
  have HC0 := Aside0.mk hc0
  clear hr0 hc0
  have HB := Aside0.mk (Below.refl w.heap.size w)
  have H : ((spec_l20Open.f l0).bind fun bt149 => ((spec_l20Things.f k bt149.1 bt149.2 14).bind fun bt152 => ((spec_l20Sentence.f k bt149.1 bt152.2 bt152.1 2).bind fun bt154 => (if bt154.1.size + 2 ≤ 9223372036854775807 then ((spec_l20Sentence.f k bt149.1 bt154.2 bt152.1 2).bind fun bt156 => (if (bt154.1 ++ (⟨#[45, 62]⟩ : ByteArray)).size + bt156.1.size ≤ 9223372036854775807 then ((spec_l20Rd_odd.f k bt149.1 bt156.2 3).bind fun bt158 => (if bt158.1 = true then ((spec_l20Rd_pick.f k bt149.1 bt158.2 (((bt154.1 ++ (⟨#[45, 62]⟩ : ByteArray)) ++ bt156.1).size : Int)).bind fun bt160 => (if 0 ≤ bt160.1 then (if bt160.1 ≤ (((bt154.1 ++ (⟨#[45, 62]⟩ : ByteArray)) ++ bt156.1).size : Int) then ((some (([(⟨#[]⟩ : ByteArray), (⟨#[45]⟩ : ByteArray), (⟨#[62]⟩ : ByteArray), (⟨#[97]⟩ : ByteArray), (⟨#[40]⟩ : ByteArray)] : List ByteArray) : List ByteArray)).bind fun y162 => ((spec_l20Rd_pick.f k bt149.1 bt160.2 5).bind fun bt165 => (if 0 ≤ bt165.1 then (if bt165.1 < (y162.length : Int) then (if (((bt154.1 ++ (⟨#[45, 62]⟩ : ByteArray)) ++ bt156.1).extract 0 (bt160.1 : Int).toNat).size + (rdOf ByteArray.empty y162 bt165.1).size ≤ 9223372036854775807 then (if 0 ≤ (wrap64 (bt160.1 + 1)) then (if (wrap64 (bt160.1 + 1)) ≤ (((bt154.1 ++ (⟨#[45, 62]⟩ : ByteArray)) ++ bt156.1).size : Int) then (if ((((bt154.1 ++ (⟨#[45, 62]⟩ : ByteArray)) ++ bt156.1).extract 0 (bt160.1 : Int).toNat) ++ (rdOf ByteArray.empty y162 bt165.1)).size + (((bt154.1 ++ (⟨#[45, 62]⟩ : ByteArray)) ++ bt156.1).extract ((wrap64 (bt160.1 + 1)) : Int).toNat ((bt154.1 ++ (⟨#[45, 62]⟩ : ByteArray)) ++ bt156.1).size).size ≤ 9223372036854775807 then (some (bt152.1, ((((bt154.1 ++ (⟨#[45, 62]⟩ : ByteArray)) ++ bt156.1).extract 0 (bt160.1 : Int).toNat) ++ (rdOf ByteArray.empty y162 bt165.1)) ++ (((bt154.1 ++ (⟨#[45, 62]⟩ : ByteArray)) ++ bt156.1).extract ((wrap64 (bt160.1 + 1)) : Int).toNat ((bt154.1 ++ (⟨#[45, 62]⟩ : ByteArray)) ++ bt156.1).size))) else (none)) else (none)) else (none)) else (none)) else (none)) else (none)))) else (none)) else (none))) else (some (bt152.1, (bt154.1 ++ (⟨#[45, 62]⟩ : ByteArray)) ++ bt156.1)))) else (none))) else (none))))) = some (r1, r2) := h
  clear h
  replace H := Option.bind_eq_some_iff.mp H
  obtain ⟨⟨t149, t150⟩, A20, H⟩ := H
  replace H : ((spec_l20Things.f k t149 t150 14).bind fun bt152 => ((spec_l20Sentence.f k t149 bt152.2 bt152.1 2).bind fun bt154 => (if bt154.1.size + 2 ≤ 9223372036854775807 then ((spec_l20Sentence.f k t149 bt154.2 bt152.1 2).bind fun bt156 => (if (bt154.1 ++ (⟨#[45, 62]⟩ : ByteArray)).size + bt156.1.size ≤ 9223372036854775807 then ((spec_l20Rd_odd.f k t149 bt156.2 3).bind fun bt158 => (if bt158.1 = true then ((spec_l20Rd_pick.f k t149 bt158.2 (((bt154.1 ++ (⟨#[45, 62]⟩ : ByteArray)) ++ bt156.1).size : Int)).bind fun bt160 => (if 0 ≤ bt160.1 then (if bt160.1 ≤ (((bt154.1 ++ (⟨#[45, 62]⟩ : ByteArray)) ++ bt156.1).size : Int) then ((some (([(⟨#[]⟩ : ByteArray), (⟨#[45]⟩ : ByteArray), (⟨#[62]⟩ : ByteArray), (⟨#[97]⟩ : ByteArray), (⟨#[40]⟩ : ByteArray)] : List ByteArray) : List ByteArray)).bind fun y162 => ((spec_l20Rd_pick.f k t149 bt160.2 5).bind fun bt165 => (if 0 ≤ bt165.1 then (if bt165.1 < (y162.length : Int) then (if (((bt154.1 ++ (⟨#[45, 62]⟩ : ByteArray)) ++ bt156.1).extract 0 (bt160.1 : Int).toNat).size + (rdOf ByteArray.empty y162 bt165.1).size ≤ 9223372036854775807 then (if 0 ≤ (wrap64 (bt160.1 + 1)) then (if (wrap64 (bt160.1 + 1)) ≤ (((bt154.1 ++ (⟨#[45, 62]⟩ : ByteArray)) ++ bt156.1).size : Int) then (if ((((bt154.1 ++ (⟨#[45, 62]⟩ : ByteArray)) ++ bt156.1).extract 0 (bt160.1 : Int).toNat) ++ (rdOf ByteArray.empty y162 bt165.1)).size + (((bt154.1 ++ (⟨#[45, 62]⟩ : ByteArray)) ++ bt156.1).extract ((wrap64 (bt160.1 + 1)) : Int).toNat ((bt154.1 ++ (⟨#[45, 62]⟩ : ByteArray)) ++ bt156.1).size).size ≤ 9223372036854775807 then (some (bt152.1, ((((bt154.1 ++ (⟨#[45, 62]⟩ : ByteArray)) ++ bt156.1).extract 0 (bt160.1 : Int).toNat) ++ (rdOf ByteArray.empty y162 bt165.1)) ++ (((bt154.1 ++ (⟨#[45, 62]⟩ : ByteArray)) ++ bt156.1).extract ((wrap64 (bt160.1 + 1)) : Int).toNat ((bt154.1 ++ (⟨#[45, 62]⟩ : ByteArray)) ++ bt156.1).size))) else (none)) else (none)) else (none)) else (none)) else (none)) else (none)))) else (none)) else (none))) else (some (bt152.1, (bt154.1 ++ (⟨#[45, 62]⟩ : ByteArray)) ++ bt156.1)))) else (none))) else (none)))) = some (r1, r2) := H
  have A2 := Aside0.mk A20
  clear A20
  replace H := Option.bind_eq_some_iff.mp H
  obtain ⟨⟨t152, t153⟩, A30, H⟩ := H
  replace H : ((spec_l20Sentence.f k t149 t153 t152 2).bind fun bt154 => (if bt154.1.size + 2 ≤ 9223372036854775807 then ((spec_l20Sentence.f k t149 bt154.2 t152 2).bind fun bt156 => (if (bt154.1 ++ (⟨#[45, 62]⟩ : ByteArray)).size + bt156.1.size ≤ 9223372036854775807 then ((spec_l20Rd_odd.f k t149 bt156.2 3).bind fun bt158 => (if bt158.1 = true then ((spec_l20Rd_pick.f k t149 bt158.2 (((bt154.1 ++ (⟨#[45, 62]⟩ : ByteArray)) ++ bt156.1).size : Int)).bind fun bt160 => (if 0 ≤ bt160.1 then (if bt160.1 ≤ (((bt154.1 ++ (⟨#[45, 62]⟩ : ByteArray)) ++ bt156.1).size : Int) then ((some (([(⟨#[]⟩ : ByteArray), (⟨#[45]⟩ : ByteArray), (⟨#[62]⟩ : ByteArray), (⟨#[97]⟩ : ByteArray), (⟨#[40]⟩ : ByteArray)] : List ByteArray) : List ByteArray)).bind fun y162 => ((spec_l20Rd_pick.f k t149 bt160.2 5).bind fun bt165 => (if 0 ≤ bt165.1 then (if bt165.1 < (y162.length : Int) then (if (((bt154.1 ++ (⟨#[45, 62]⟩ : ByteArray)) ++ bt156.1).extract 0 (bt160.1 : Int).toNat).size + (rdOf ByteArray.empty y162 bt165.1).size ≤ 9223372036854775807 then (if 0 ≤ (wrap64 (bt160.1 + 1)) then (if (wrap64 (bt160.1 + 1)) ≤ (((bt154.1 ++ (⟨#[45, 62]⟩ : ByteArray)) ++ bt156.1).size : Int) then (if ((((bt154.1 ++ (⟨#[45, 62]⟩ : ByteArray)) ++ bt156.1).extract 0 (bt160.1 : Int).toNat) ++ (rdOf ByteArray.empty y162 bt165.1)).size + (((bt154.1 ++ (⟨#[45, 62]⟩ : ByteArray)) ++ bt156.1).extract ((wrap64 (bt160.1 + 1)) : Int).toNat ((bt154.1 ++ (⟨#[45, 62]⟩ : ByteArray)) ++ bt156.1).size).size ≤ 9223372036854775807 then (some (t152, ((((bt154.1 ++ (⟨#[45, 62]⟩ : ByteArray)) ++ bt156.1).extract 0 (bt160.1 : Int).toNat) ++ (rdOf ByteArray.empty y162 bt165.1)) ++ (((bt154.1 ++ (⟨#[45, 62]⟩ : ByteArray)) ++ bt156.1).extract ((wrap64 (bt160.1 + 1)) : Int).toNat ((bt154.1 ++ (⟨#[45, 62]⟩ : ByteArray)) ++ bt156.1).size))) else (none)) else (none)) else (none)) else (none)) else (none)) else (none)))) else (none)) else (none))) else (some (t152, (bt154.1 ++ (⟨#[45, 62]⟩ : ByteArray)) ++ bt156.1)))) else (none))) else (none))) = some (r1, r2) := H
  have A3 := Aside0.mk A30
  clear A30
  replace H := Option.bind_eq_some_iff.mp H
  obtain ⟨⟨t154, t155⟩, A40, H⟩ := H
  replace H : (if t154.size + 2 ≤ 9223372036854775807 then ((spec_l20Sentence.f k t149 t155 t152 2).bind fun bt156 => (if (t154 ++ (⟨#[45, 62]⟩ : ByteArray)).size + bt156.1.size ≤ 9223372036854775807 then ((spec_l20Rd_odd.f k t149 bt156.2 3).bind fun bt158 => (if bt158.1 = true then ((spec_l20Rd_pick.f k t149 bt158.2 (((t154 ++ (⟨#[45, 62]⟩ : ByteArray)) ++ bt156.1).size : Int)).bind fun bt160 => (if 0 ≤ bt160.1 then (if bt160.1 ≤ (((t154 ++ (⟨#[45, 62]⟩ : ByteArray)) ++ bt156.1).size : Int) then ((some (([(⟨#[]⟩ : ByteArray), (⟨#[45]⟩ : ByteArray), (⟨#[62]⟩ : ByteArray), (⟨#[97]⟩ : ByteArray), (⟨#[40]⟩ : ByteArray)] : List ByteArray) : List ByteArray)).bind fun y162 => ((spec_l20Rd_pick.f k t149 bt160.2 5).bind fun bt165 => (if 0 ≤ bt165.1 then (if bt165.1 < (y162.length : Int) then (if (((t154 ++ (⟨#[45, 62]⟩ : ByteArray)) ++ bt156.1).extract 0 (bt160.1 : Int).toNat).size + (rdOf ByteArray.empty y162 bt165.1).size ≤ 9223372036854775807 then (if 0 ≤ (wrap64 (bt160.1 + 1)) then (if (wrap64 (bt160.1 + 1)) ≤ (((t154 ++ (⟨#[45, 62]⟩ : ByteArray)) ++ bt156.1).size : Int) then (if ((((t154 ++ (⟨#[45, 62]⟩ : ByteArray)) ++ bt156.1).extract 0 (bt160.1 : Int).toNat) ++ (rdOf ByteArray.empty y162 bt165.1)).size + (((t154 ++ (⟨#[45, 62]⟩ : ByteArray)) ++ bt156.1).extract ((wrap64 (bt160.1 + 1)) : Int).toNat ((t154 ++ (⟨#[45, 62]⟩ : ByteArray)) ++ bt156.1).size).size ≤ 9223372036854775807 then (some (t152, ((((t154 ++ (⟨#[45, 62]⟩ : ByteArray)) ++ bt156.1).extract 0 (bt160.1 : Int).toNat) ++ (rdOf ByteArray.empty y162 bt165.1)) ++ (((t154 ++ (⟨#[45, 62]⟩ : ByteArray)) ++ bt156.1).extract ((wrap64 (bt160.1 + 1)) : Int).toNat ((t154 ++ (⟨#[45, 62]⟩ : ByteArray)) ++ bt156.1).size))) else (none)) else (none)) else (none)) else (none)) else (none)) else (none)))) else (none)) else (none))) else (some (t152, (t154 ++ (⟨#[45, 62]⟩ : ByteArray)) ++ bt156.1)))) else (none))) else (none)) = some (r1, r2) := H
  have A4 := Aside0.mk A40
  clear A40
  by_cases c5 : t154.size + 2 ≤ 9223372036854775807
  · rw [if_pos c5] at H
    have c5b0 := eq_true c5
    have c5b1 : decide (t154.size + 2 ≤ 9223372036854775807) = true := decide_eq_true c5
    try have c5b2 : (9223372036854775807 < t154.size + 2) = False := eq_false (Nat.not_lt.2 c5)
    replace H := Option.bind_eq_some_iff.mp H
    obtain ⟨⟨t156, t157⟩, A60, H⟩ := H
    replace H : (if (t154 ++ (⟨#[45, 62]⟩ : ByteArray)).size + t156.size ≤ 9223372036854775807 then ((spec_l20Rd_odd.f k t149 t157 3).bind fun bt158 => (if bt158.1 = true then ((spec_l20Rd_pick.f k t149 bt158.2 (((t154 ++ (⟨#[45, 62]⟩ : ByteArray)) ++ t156).size : Int)).bind fun bt160 => (if 0 ≤ bt160.1 then (if bt160.1 ≤ (((t154 ++ (⟨#[45, 62]⟩ : ByteArray)) ++ t156).size : Int) then ((some (([(⟨#[]⟩ : ByteArray), (⟨#[45]⟩ : ByteArray), (⟨#[62]⟩ : ByteArray), (⟨#[97]⟩ : ByteArray), (⟨#[40]⟩ : ByteArray)] : List ByteArray) : List ByteArray)).bind fun y162 => ((spec_l20Rd_pick.f k t149 bt160.2 5).bind fun bt165 => (if 0 ≤ bt165.1 then (if bt165.1 < (y162.length : Int) then (if (((t154 ++ (⟨#[45, 62]⟩ : ByteArray)) ++ t156).extract 0 (bt160.1 : Int).toNat).size + (rdOf ByteArray.empty y162 bt165.1).size ≤ 9223372036854775807 then (if 0 ≤ (wrap64 (bt160.1 + 1)) then (if (wrap64 (bt160.1 + 1)) ≤ (((t154 ++ (⟨#[45, 62]⟩ : ByteArray)) ++ t156).size : Int) then (if ((((t154 ++ (⟨#[45, 62]⟩ : ByteArray)) ++ t156).extract 0 (bt160.1 : Int).toNat) ++ (rdOf ByteArray.empty y162 bt165.1)).size + (((t154 ++ (⟨#[45, 62]⟩ : ByteArray)) ++ t156).extract ((wrap64 (bt160.1 + 1)) : Int).toNat ((t154 ++ (⟨#[45, 62]⟩ : ByteArray)) ++ t156).size).size ≤ 9223372036854775807 then (some (t152, ((((t154 ++ (⟨#[45, 62]⟩ : ByteArray)) ++ t156).extract 0 (bt160.1 : Int).toNat) ++ (rdOf ByteArray.empty y162 bt165.1)) ++ (((t154 ++ (⟨#[45, 62]⟩ : ByteArray)) ++ t156).extract ((wrap64 (bt160.1 + 1)) : Int).toNat ((t154 ++ (⟨#[45, 62]⟩ : ByteArray)) ++ t156).size))) else (none)) else (none)) else (none)) else (none)) else (none)) else (none)))) else (none)) else (none))) else (some (t152, (t154 ++ (⟨#[45, 62]⟩ : ByteArray)) ++ t156)))) else (none)) = some (r1, r2) := H
    have A6 := Aside0.mk A60
    clear A60
    by_cases c7 : (t154 ++ (⟨#[45, 62]⟩ : ByteArray)).size + t156.size ≤ 9223372036854775807
    · rw [if_pos c7] at H
      have c7b0 := eq_true c7
      have c7b1 : decide ((t154 ++ (⟨#[45, 62]⟩ : ByteArray)).size + t156.size ≤ 9223372036854775807) = true := decide_eq_true c7
      try have c7b2 : (9223372036854775807 < (t154 ++ (⟨#[45, 62]⟩ : ByteArray)).size + t156.size) = False := eq_false (Nat.not_lt.2 c7)
      try have c7b8 : (9223372036854775807 < t154.size + 2 + t156.size) = False := eq_false (by have h_ := c7; (repeat rw [ByteArray.size_append] at h_); exact Nat.not_lt.2 h_)
      replace H := Option.bind_eq_some_iff.mp H
      obtain ⟨⟨t158, t159⟩, A80, H⟩ := H
      replace H : (if t158 = true then ((spec_l20Rd_pick.f k t149 t159 (((t154 ++ (⟨#[45, 62]⟩ : ByteArray)) ++ t156).size : Int)).bind fun bt160 => (if 0 ≤ bt160.1 then (if bt160.1 ≤ (((t154 ++ (⟨#[45, 62]⟩ : ByteArray)) ++ t156).size : Int) then ((some (([(⟨#[]⟩ : ByteArray), (⟨#[45]⟩ : ByteArray), (⟨#[62]⟩ : ByteArray), (⟨#[97]⟩ : ByteArray), (⟨#[40]⟩ : ByteArray)] : List ByteArray) : List ByteArray)).bind fun y162 => ((spec_l20Rd_pick.f k t149 bt160.2 5).bind fun bt165 => (if 0 ≤ bt165.1 then (if bt165.1 < (y162.length : Int) then (if (((t154 ++ (⟨#[45, 62]⟩ : ByteArray)) ++ t156).extract 0 (bt160.1 : Int).toNat).size + (rdOf ByteArray.empty y162 bt165.1).size ≤ 9223372036854775807 then (if 0 ≤ (wrap64 (bt160.1 + 1)) then (if (wrap64 (bt160.1 + 1)) ≤ (((t154 ++ (⟨#[45, 62]⟩ : ByteArray)) ++ t156).size : Int) then (if ((((t154 ++ (⟨#[45, 62]⟩ : ByteArray)) ++ t156).extract 0 (bt160.1 : Int).toNat) ++ (rdOf ByteArray.empty y162 bt165.1)).size + (((t154 ++ (⟨#[45, 62]⟩ : ByteArray)) ++ t156).extract ((wrap64 (bt160.1 + 1)) : Int).toNat ((t154 ++ (⟨#[45, 62]⟩ : ByteArray)) ++ t156).size).size ≤ 9223372036854775807 then (some (t152, ((((t154 ++ (⟨#[45, 62]⟩ : ByteArray)) ++ t156).extract 0 (bt160.1 : Int).toNat) ++ (rdOf ByteArray.empty y162 bt165.1)) ++ (((t154 ++ (⟨#[45, 62]⟩ : ByteArray)) ++ t156).extract ((wrap64 (bt160.1 + 1)) : Int).toNat ((t154 ++ (⟨#[45, 62]⟩ : ByteArray)) ++ t156).size))) else (none)) else (none)) else (none)) else (none)) else (none)) else (none)))) else (none)) else (none))) else (some (t152, (t154 ++ (⟨#[45, 62]⟩ : ByteArray)) ++ t156))) = some (r1, r2) := H
      have A8 := Aside0.mk A80
      clear A80
      by_cases c9 : t158 = true
      · subst c9
        have H1 : ((spec_l20Rd_pick.f k t149 t159 (((t154 ++ (⟨#[45, 62]⟩ : ByteArray)) ++ t156).size : Int)).bind fun bt160 => (if 0 ≤ bt160.1 then (if bt160.1 ≤ (((t154 ++ (⟨#[45, 62]⟩ : ByteArray)) ++ t156).size : Int) then ((some (([(⟨#[]⟩ : ByteArray), (⟨#[45]⟩ : ByteArray), (⟨#[62]⟩ : ByteArray), (⟨#[97]⟩ : ByteArray), (⟨#[40]⟩ : ByteArray)] : List ByteArray) : List ByteArray)).bind fun y162 => ((spec_l20Rd_pick.f k t149 bt160.2 5).bind fun bt165 => (if 0 ≤ bt165.1 then (if bt165.1 < (y162.length : Int) then (if (((t154 ++ (⟨#[45, 62]⟩ : ByteArray)) ++ t156).extract 0 (bt160.1 : Int).toNat).size + (rdOf ByteArray.empty y162 bt165.1).size ≤ 9223372036854775807 then (if 0 ≤ (wrap64 (bt160.1 + 1)) then (if (wrap64 (bt160.1 + 1)) ≤ (((t154 ++ (⟨#[45, 62]⟩ : ByteArray)) ++ t156).size : Int) then (if ((((t154 ++ (⟨#[45, 62]⟩ : ByteArray)) ++ t156).extract 0 (bt160.1 : Int).toNat) ++ (rdOf ByteArray.empty y162 bt165.1)).size + (((t154 ++ (⟨#[45, 62]⟩ : ByteArray)) ++ t156).extract ((wrap64 (bt160.1 + 1)) : Int).toNat ((t154 ++ (⟨#[45, 62]⟩ : ByteArray)) ++ t156).size).size ≤ 9223372036854775807 then (some (t152, ((((t154 ++ (⟨#[45, 62]⟩ : ByteArray)) ++ t156).extract 0 (bt160.1 : Int).toNat) ++ (rdOf ByteArray.empty y162 bt165.1)) ++ (((t154 ++ (⟨#[45, 62]⟩ : ByteArray)) ++ t156).extract ((wrap64 (bt160.1 + 1)) : Int).toNat ((t154 ++ (⟨#[45, 62]⟩ : ByteArray)) ++ t156).size))) else (none)) else (none)) else (none)) else (none)) else (none)) else (none)))) else (none)) else (none))) = some (r1, r2) := by rw [if_pos rfl] at H; exact H
        clear H
        have H := H1
        clear H1
        replace H := Option.bind_eq_some_iff.mp H
        obtain ⟨⟨t160, t161⟩, A100, H⟩ := H
        replace H : (if 0 ≤ t160 then (if t160 ≤ (((t154 ++ (⟨#[45, 62]⟩ : ByteArray)) ++ t156).size : Int) then ((some (([(⟨#[]⟩ : ByteArray), (⟨#[45]⟩ : ByteArray), (⟨#[62]⟩ : ByteArray), (⟨#[97]⟩ : ByteArray), (⟨#[40]⟩ : ByteArray)] : List ByteArray) : List ByteArray)).bind fun y162 => ((spec_l20Rd_pick.f k t149 t161 5).bind fun bt165 => (if 0 ≤ bt165.1 then (if bt165.1 < (y162.length : Int) then (if (((t154 ++ (⟨#[45, 62]⟩ : ByteArray)) ++ t156).extract 0 (t160 : Int).toNat).size + (rdOf ByteArray.empty y162 bt165.1).size ≤ 9223372036854775807 then (if 0 ≤ (wrap64 (t160 + 1)) then (if (wrap64 (t160 + 1)) ≤ (((t154 ++ (⟨#[45, 62]⟩ : ByteArray)) ++ t156).size : Int) then (if ((((t154 ++ (⟨#[45, 62]⟩ : ByteArray)) ++ t156).extract 0 (t160 : Int).toNat) ++ (rdOf ByteArray.empty y162 bt165.1)).size + (((t154 ++ (⟨#[45, 62]⟩ : ByteArray)) ++ t156).extract ((wrap64 (t160 + 1)) : Int).toNat ((t154 ++ (⟨#[45, 62]⟩ : ByteArray)) ++ t156).size).size ≤ 9223372036854775807 then (some (t152, ((((t154 ++ (⟨#[45, 62]⟩ : ByteArray)) ++ t156).extract 0 (t160 : Int).toNat) ++ (rdOf ByteArray.empty y162 bt165.1)) ++ (((t154 ++ (⟨#[45, 62]⟩ : ByteArray)) ++ t156).extract ((wrap64 (t160 + 1)) : Int).toNat ((t154 ++ (⟨#[45, 62]⟩ : ByteArray)) ++ t156).size))) else (none)) else (none)) else (none)) else (none)) else (none)) else (none)))) else (none)) else (none)) = some (r1, r2) := H
        have A10 := Aside0.mk A100
        clear A100
        by_cases c11 : 0 ≤ t160
        · rw [if_pos c11] at H
          have c11b0 := eq_true c11
          have c11b1 : decide (0 ≤ t160) = true := decide_eq_true c11
          clear c11
          by_cases c12 : t160 ≤ (((t154 ++ (⟨#[45, 62]⟩ : ByteArray)) ++ t156).size : Int)
          · rw [if_pos c12] at H
            have c12b0 := eq_true c12
            have c12b1 : decide (t160 ≤ (((t154 ++ (⟨#[45, 62]⟩ : ByteArray)) ++ t156).size : Int)) = true := decide_eq_true c12
            try have c12b19 : decide (t160 ≤ ((t154.size : Int) + 2 + (t156.size : Int))) = true := (by have e_ : (((t154 ++ (⟨#[45, 62]⟩ : ByteArray)) ++ t156).size : Int) = ((t154.size : Int) + 2 + (t156.size : Int)) := (by simp only [ByteArray.size_append, Int.natCast_add]; rfl); rw [← e_]; clear e_; exact c12b1)
            obtain ⟨y162, hy162⟩ : ∃ y_ : List ByteArray, y_ = (([(⟨#[]⟩ : ByteArray), (⟨#[45]⟩ : ByteArray), (⟨#[62]⟩ : ByteArray), (⟨#[97]⟩ : ByteArray), (⟨#[40]⟩ : ByteArray)] : List ByteArray)) := ⟨_, rfl⟩
            replace H : ((spec_l20Rd_pick.f k t149 t161 5).bind fun bt165 => (if 0 ≤ bt165.1 then (if bt165.1 < (y162.length : Int) then (if (((t154 ++ (⟨#[45, 62]⟩ : ByteArray)) ++ t156).extract 0 (t160 : Int).toNat).size + (rdOf ByteArray.empty y162 bt165.1).size ≤ 9223372036854775807 then (if 0 ≤ (wrap64 (t160 + 1)) then (if (wrap64 (t160 + 1)) ≤ (((t154 ++ (⟨#[45, 62]⟩ : ByteArray)) ++ t156).size : Int) then (if ((((t154 ++ (⟨#[45, 62]⟩ : ByteArray)) ++ t156).extract 0 (t160 : Int).toNat) ++ (rdOf ByteArray.empty y162 bt165.1)).size + (((t154 ++ (⟨#[45, 62]⟩ : ByteArray)) ++ t156).extract ((wrap64 (t160 + 1)) : Int).toNat ((t154 ++ (⟨#[45, 62]⟩ : ByteArray)) ++ t156).size).size ≤ 9223372036854775807 then (some (t152, ((((t154 ++ (⟨#[45, 62]⟩ : ByteArray)) ++ t156).extract 0 (t160 : Int).toNat) ++ (rdOf ByteArray.empty y162 bt165.1)) ++ (((t154 ++ (⟨#[45, 62]⟩ : ByteArray)) ++ t156).extract ((wrap64 (t160 + 1)) : Int).toNat ((t154 ++ (⟨#[45, 62]⟩ : ByteArray)) ++ t156).size))) else (none)) else (none)) else (none)) else (none)) else (none)) else (none))) = some (r1, r2) := by first | (rw [hy162]; with_reducible exact H) | (have H2_ := (Option.bind_some _ _).symm.trans H; rw [hy162]; with_reducible exact H2_) | (have H2_ := (Option.bind_some _ _).symm.trans H; with_reducible exact H2_) | with_reducible exact H | (rw [hy162]; exact H) | exact H
            have Ny162 := Aside0.mk hy162
            clear hy162
            replace H := Option.bind_eq_some_iff.mp H
            obtain ⟨⟨t165, t166⟩, A130, H⟩ := H
            replace H : (if 0 ≤ t165 then (if t165 < (y162.length : Int) then (if (((t154 ++ (⟨#[45, 62]⟩ : ByteArray)) ++ t156).extract 0 (t160 : Int).toNat).size + (rdOf ByteArray.empty y162 t165).size ≤ 9223372036854775807 then (if 0 ≤ (wrap64 (t160 + 1)) then (if (wrap64 (t160 + 1)) ≤ (((t154 ++ (⟨#[45, 62]⟩ : ByteArray)) ++ t156).size : Int) then (if ((((t154 ++ (⟨#[45, 62]⟩ : ByteArray)) ++ t156).extract 0 (t160 : Int).toNat) ++ (rdOf ByteArray.empty y162 t165)).size + (((t154 ++ (⟨#[45, 62]⟩ : ByteArray)) ++ t156).extract ((wrap64 (t160 + 1)) : Int).toNat ((t154 ++ (⟨#[45, 62]⟩ : ByteArray)) ++ t156).size).size ≤ 9223372036854775807 then (some (t152, ((((t154 ++ (⟨#[45, 62]⟩ : ByteArray)) ++ t156).extract 0 (t160 : Int).toNat) ++ (rdOf ByteArray.empty y162 t165)) ++ (((t154 ++ (⟨#[45, 62]⟩ : ByteArray)) ++ t156).extract ((wrap64 (t160 + 1)) : Int).toNat ((t154 ++ (⟨#[45, 62]⟩ : ByteArray)) ++ t156).size))) else (none)) else (none)) else (none)) else (none)) else (none)) else (none)) = some (r1, r2) := H
            have A13 := Aside0.mk A130
            clear A130
            by_cases c14 : 0 ≤ t165
            · rw [if_pos c14] at H
              have c14b0 : decide (0 ≤ t165) = true := decide_eq_true c14
              clear c14
              by_cases c15 : t165 < (y162.length : Int)
              · rw [if_pos c15] at H
                have c15b0 : decide (t165 < (y162.length : Int)) = true := decide_eq_true c15
                clear c15
                by_cases c16 : (((t154 ++ (⟨#[45, 62]⟩ : ByteArray)) ++ t156).extract 0 (t160 : Int).toNat).size + (rdOf ByteArray.empty y162 t165).size ≤ 9223372036854775807
                · rw [if_pos c16] at H
                  have c16b0 := eq_true c16
                  have c16b1 : decide ((((t154 ++ (⟨#[45, 62]⟩ : ByteArray)) ++ t156).extract 0 (t160 : Int).toNat).size + (rdOf ByteArray.empty y162 t165).size ≤ 9223372036854775807) = true := decide_eq_true c16
                  try have c16b2 : (9223372036854775807 < (((t154 ++ (⟨#[45, 62]⟩ : ByteArray)) ++ t156).extract 0 (t160 : Int).toNat).size + (rdOf ByteArray.empty y162 t165).size) = False := eq_false (Nat.not_lt.2 c16)
                  try have c16b7 : (t160.toNat + (rdOf ByteArray.empty y162 t165).size ≤ 9223372036854775807) = True := eq_true (by have h_ := c16; (try simp only [ByteArray.size_append, ByteArray.size_extract] at h_); (try have := (of_eq_true (by assumption : (t160 ≤ (((t154 ++ (⟨#[45, 62]⟩ : ByteArray)) ++ t156).size : Int)) = True))); (try have := (show (⟨#[45, 62]⟩ : ByteArray).size = 2 from rfl)); (try simp only [ByteArray.size_append] at *); omega)
                  try have c16b6 : (9223372036854775807 < t160.toNat + (rdOf ByteArray.empty y162 t165).size) = False := eq_false (by have h_ := c16; (try simp only [ByteArray.size_append, ByteArray.size_extract] at h_); (try have := (of_eq_true (by assumption : (t160 ≤ (((t154 ++ (⟨#[45, 62]⟩ : ByteArray)) ++ t156).size : Int)) = True))); (try have := (show (⟨#[45, 62]⟩ : ByteArray).size = 2 from rfl)); (try simp only [ByteArray.size_append] at *); omega)
                  obtain ⟨ji17, hji17⟩ : ∃ j_ : Int, (wrap64 (t160 + 1)) = j_ := ⟨_, rfl⟩
                  replace H : (if 0 ≤ (ji17) then (if (ji17) ≤ (((t154 ++ (⟨#[45, 62]⟩ : ByteArray)) ++ t156).size : Int) then (if ((((t154 ++ (⟨#[45, 62]⟩ : ByteArray)) ++ t156).extract 0 (t160 : Int).toNat) ++ (rdOf ByteArray.empty y162 t165)).size + (((t154 ++ (⟨#[45, 62]⟩ : ByteArray)) ++ t156).extract ((ji17) : Int).toNat ((t154 ++ (⟨#[45, 62]⟩ : ByteArray)) ++ t156).size).size ≤ 9223372036854775807 then (some (t152, ((((t154 ++ (⟨#[45, 62]⟩ : ByteArray)) ++ t156).extract 0 (t160 : Int).toNat) ++ (rdOf ByteArray.empty y162 t165)) ++ (((t154 ++ (⟨#[45, 62]⟩ : ByteArray)) ++ t156).extract ((ji17) : Int).toNat ((t154 ++ (⟨#[45, 62]⟩ : ByteArray)) ++ t156).size))) else (none)) else (none)) else (none)) = some (r1, r2) := by first | (rw [hji17] at H; exact H) | (simp only [hji17] at H ⊢; exact H)
                  (try rw [hji17] at A2)
                  (try rw [hji17] at A3)
                  (try rw [hji17] at A4)
                  (try rw [hji17] at A6)
                  (try rw [hji17] at A8)
                  (try rw [hji17] at A10)
                  (try rw [hji17] at A13)
                  have hji17w : (IntKind.i64.wrap (t160 + 1)) = ji17 := (i64_w _).trans hji17
                  by_cases c18 : 0 ≤ (ji17)
                  · rw [if_pos c18] at H
                    have c18b0 := eq_true c18
                    have c18b1 : decide (0 ≤ (ji17)) = true := decide_eq_true c18
                    clear c18
                    by_cases c19 : (ji17) ≤ (((t154 ++ (⟨#[45, 62]⟩ : ByteArray)) ++ t156).size : Int)
                    · rw [if_pos c19] at H
                      have c19b0 := eq_true c19
                      have c19b1 : decide ((ji17) ≤ (((t154 ++ (⟨#[45, 62]⟩ : ByteArray)) ++ t156).size : Int)) = true := decide_eq_true c19
                      try have c19b19 : decide ((ji17) ≤ ((t154.size : Int) + 2 + (t156.size : Int))) = true := (by have e_ : (((t154 ++ (⟨#[45, 62]⟩ : ByteArray)) ++ t156).size : Int) = ((t154.size : Int) + 2 + (t156.size : Int)) := (by simp only [ByteArray.size_append, Int.natCast_add]; rfl); rw [← e_]; clear e_; exact c19b1)
                      by_cases c20 : ((((t154 ++ (⟨#[45, 62]⟩ : ByteArray)) ++ t156).extract 0 (t160 : Int).toNat) ++ (rdOf ByteArray.empty y162 t165)).size + (((t154 ++ (⟨#[45, 62]⟩ : ByteArray)) ++ t156).extract ((ji17) : Int).toNat ((t154 ++ (⟨#[45, 62]⟩ : ByteArray)) ++ t156).size).size ≤ 9223372036854775807
                      · rw [if_pos c20] at H
                        have c20b0 := eq_true c20
                        have c20b1 : decide (((((t154 ++ (⟨#[45, 62]⟩ : ByteArray)) ++ t156).extract 0 (t160 : Int).toNat) ++ (rdOf ByteArray.empty y162 t165)).size + (((t154 ++ (⟨#[45, 62]⟩ : ByteArray)) ++ t156).extract ((ji17) : Int).toNat ((t154 ++ (⟨#[45, 62]⟩ : ByteArray)) ++ t156).size).size ≤ 9223372036854775807) = true := decide_eq_true c20
                        try have c20b2 : (9223372036854775807 < ((((t154 ++ (⟨#[45, 62]⟩ : ByteArray)) ++ t156).extract 0 (t160 : Int).toNat) ++ (rdOf ByteArray.empty y162 t165)).size + (((t154 ++ (⟨#[45, 62]⟩ : ByteArray)) ++ t156).extract ((ji17) : Int).toNat ((t154 ++ (⟨#[45, 62]⟩ : ByteArray)) ++ t156).size).size) = False := eq_false (Nat.not_lt.2 c20)
                        try have c20b8 : (9223372036854775807 < (((t154 ++ (⟨#[45, 62]⟩ : ByteArray)) ++ t156).extract 0 (t160 : Int).toNat).size + (rdOf ByteArray.empty y162 t165).size + (((t154 ++ (⟨#[45, 62]⟩ : ByteArray)) ++ t156).extract ((ji17) : Int).toNat ((t154 ++ (⟨#[45, 62]⟩ : ByteArray)) ++ t156).size).size) = False := eq_false (by have h_ := c20; (repeat rw [ByteArray.size_append] at h_); exact Nat.not_lt.2 h_)
                        try have c20b7 : (t160.toNat + (rdOf ByteArray.empty y162 t165).size + ((t154.size + 2 + t156.size) - ji17.toNat) ≤ 9223372036854775807) = True := eq_true (by have h_ := c20; (try simp only [ByteArray.size_append, ByteArray.size_extract] at h_); (try have := (of_eq_true (by assumption : (ji17 ≤ (((t154 ++ (⟨#[45, 62]⟩ : ByteArray)) ++ t156).size : Int)) = True))); (try have := (of_eq_true (by assumption : (t160 ≤ (((t154 ++ (⟨#[45, 62]⟩ : ByteArray)) ++ t156).size : Int)) = True))); (try have := (show (⟨#[45, 62]⟩ : ByteArray).size = 2 from rfl)); (try simp only [ByteArray.size_append] at *); omega)
                        try have c20b6 : (9223372036854775807 < t160.toNat + (rdOf ByteArray.empty y162 t165).size + ((t154.size + 2 + t156.size) - ji17.toNat)) = False := eq_false (by have h_ := c20; (try simp only [ByteArray.size_append, ByteArray.size_extract] at h_); (try have := (of_eq_true (by assumption : (ji17 ≤ (((t154 ++ (⟨#[45, 62]⟩ : ByteArray)) ++ t156).size : Int)) = True))); (try have := (of_eq_true (by assumption : (t160 ≤ (((t154 ++ (⟨#[45, 62]⟩ : ByteArray)) ++ t156).size : Int)) = True))); (try have := (show (⟨#[45, 62]⟩ : ByteArray).size = 2 from rfl)); (try simp only [ByteArray.size_append] at *); omega)
                        simp only [Option.some.injEq, Prod.mk.injEq] at H
                        obtain ⟨rfl, rfl⟩ := H
                        go_enter Try.func35, Try.ntmps35
                        try go_wp2_with (first | ((with_reducible refine gate_callee (f := 78) rfl ?_); refine goesL_ (some 9) rfl rfl Try.func78 (by kernel_rfl) rfl #[.slice A0 l0.length c0] rfl (by (try simp only [List.map_toArray, List.map_cons, List.map_nil]); first | done | rfl | (simp only [List.length_drop, List.length_take]; rfl)) ?_; (with_reducible refine (spec_l20Open.calls _ _ l0 t149 t150 w _ ?side1 ?side2 ?side3 A2.out).mono ?_); (case side1 => repeat (first | (with_reducible first | exact HB.out | apply below_alloc | apply pw_below_drewN | apply below_drew1) | exact HB.out)); (case side2 => exact HR0.out); (case side3 => exact HC0.out); rintro e w21 ⟨g151, rfl, hi, hb, hb2⟩; refine ⟨_, rfl, ?_⟩; have n0_ := Aside0.mk (hb); have n1_ := Aside0.mk (hi); clear HB; have HB := n0_; have HI151 := n1_; clear n0_ n1_; (try clear hb); (try clear hb2); (try clear hk); (try clear hi)) | ((with_reducible refine gate_callee (f := 79) rfl ?_); refine goesL_ (some 11) rfl rfl Try.func79 (by kernel_rfl) rfl #[.pointer (some ⟨g151, 0, none⟩), .int .i64 14] rfl (by (try simp only [List.map_toArray, List.map_cons, List.map_nil]); first | done | rfl | (simp only [List.length_drop, List.length_take]; rfl)) ?_; (with_reducible refine (spec_l20Things.calls k g151 t149 t150 14 t152 t153 w _ ?side1 ?side2 A3.out).mono ?_); (case side1 => repeat (first | (with_reducible first | exact HI151.out | apply IsS118.alloc | apply IsS118.drewN | apply IsS118.drew | apply IsS118.set_1) | exact HI151.out)); (case side2 => repeat (first | (with_reducible first | exact HB.out | apply below_alloc | apply pw_below_drewN | apply below_drew1 | refine below_set ?_ (IsS118.ge HI151.out)) | exact HB.out)); rintro e w22 ⟨rfl, hi, hb, hk⟩; refine ⟨_, rfl, ?_⟩; have n0_ := Aside0.mk (hb); have n1_ := Aside0.mk (hi); clear HB; clear HI151; have HB := n0_; have HI151 := n1_; clear n0_ n1_; (try clear hb); (try clear hb2); (try clear hk); (try clear hi)) | ((with_reducible refine gate_callee (f := 80) rfl ?_); refine goesL_ (some 14) rfl rfl Try.func80 (by kernel_rfl) rfl #[.pointer (some ⟨g151, 0, none⟩), .int .i64 t152, .int .i64 2] rfl (by (try simp only [List.map_toArray, List.map_cons, List.map_nil]); first | done | rfl | (simp only [List.length_drop, List.length_take]; rfl)) ?_; (with_reducible refine (spec_l20Sentence.calls k g151 t149 t153 t152 2 t154 t155 w _ ?side1 ?side2 A4.out).mono ?_); (case side1 => repeat (first | (with_reducible first | exact HI151.out | apply IsS118.alloc | apply IsS118.drewN | apply IsS118.drew | apply IsS118.set_1) | exact HI151.out)); (case side2 => repeat (first | (with_reducible first | exact HB.out | apply below_alloc | apply pw_below_drewN | apply below_drew1 | refine below_set ?_ (IsS118.ge HI151.out)) | exact HB.out)); rintro e w23 ⟨rfl, hi, hb, hk⟩; refine ⟨_, rfl, ?_⟩; have n0_ := Aside0.mk (hb); have n1_ := Aside0.mk (hi); clear HB; clear HI151; have HB := n0_; have HI151 := n1_; clear n0_ n1_; (try clear hb); (try clear hb2); (try clear hk); (try clear hi)) | ((with_reducible refine gate_callee (f := 80) rfl ?_); refine goesL_ (some 18) rfl rfl Try.func80 (by kernel_rfl) rfl #[.pointer (some ⟨g151, 0, none⟩), .int .i64 t152, .int .i64 2] rfl (by (try simp only [List.map_toArray, List.map_cons, List.map_nil]); first | done | rfl | (simp only [List.length_drop, List.length_take]; rfl)) ?_; (with_reducible refine (spec_l20Sentence.calls k g151 t149 t155 t152 2 t156 t157 w _ ?side1 ?side2 A6.out).mono ?_); (case side1 => repeat (first | (with_reducible first | exact HI151.out | apply IsS118.alloc | apply IsS118.drewN | apply IsS118.drew | apply IsS118.set_1) | exact HI151.out)); (case side2 => repeat (first | (with_reducible first | exact HB.out | apply below_alloc | apply pw_below_drewN | apply below_drew1 | refine below_set ?_ (IsS118.ge HI151.out)) | exact HB.out)); rintro e w24 ⟨rfl, hi, hb, hk⟩; refine ⟨_, rfl, ?_⟩; have n0_ := Aside0.mk (hb); have n1_ := Aside0.mk (hi); clear HB; clear HI151; have HB := n0_; have HI151 := n1_; clear n0_ n1_; (try clear hb); (try clear hb2); (try clear hk); (try clear hi)) | ((with_reducible refine gate_callee (f := 81) rfl ?_); refine goesL_ (some 21) rfl rfl Try.func81 (by kernel_rfl) rfl #[.pointer (some ⟨g151, 0, none⟩), .int .i64 3] rfl (by (try simp only [List.map_toArray, List.map_cons, List.map_nil]); first | done | rfl | (simp only [List.length_drop, List.length_take]; rfl)) ?_; (with_reducible refine (spec_l20Rd_odd.calls k g151 t149 t157 3 true t159 w _ ?side1 ?side2 A8.out).mono ?_); (case side1 => repeat (first | (with_reducible first | exact HI151.out | apply IsS118.alloc | apply IsS118.drewN | apply IsS118.drew | apply IsS118.set_1) | exact HI151.out)); (case side2 => repeat (first | (with_reducible first | exact HB.out | apply below_alloc | apply pw_below_drewN | apply below_drew1 | refine below_set ?_ (IsS118.ge HI151.out)) | exact HB.out)); rintro e w25 ⟨rfl, hi, hb, hk⟩; refine ⟨_, rfl, ?_⟩; have n0_ := Aside0.mk (hb); have n1_ := Aside0.mk (hi); clear HB; clear HI151; have HB := n0_; have HI151 := n1_; clear n0_ n1_; (try clear hb); (try clear hb2); (try clear hk); (try clear hi)) | ((with_reducible refine gate_callee (f := 82) rfl ?_); refine goesL_ (some 25) rfl rfl Try.func82 (by kernel_rfl) rfl #[.pointer (some ⟨g151, 0, none⟩), .int .i64 (((t154 ++ (⟨#[45, 62]⟩ : ByteArray)) ++ t156).size : Int)] rfl (by (try simp only [List.map_toArray, List.map_cons, List.map_nil]); first | done | rfl | (rw [show (((t154 ++ (⟨#[45, 62]⟩ : ByteArray)) ++ t156).size : Int) = ((t154.size : Int) + 2 + (t156.size : Int)) from (by simp only [ByteArray.size_append, Int.natCast_add]; rfl)]; rfl) | (simp only [List.length_drop, List.length_take]; rfl)) ?_; (with_reducible refine (spec_l20Rd_pick.calls k g151 t149 t159 (((t154 ++ (⟨#[45, 62]⟩ : ByteArray)) ++ t156).size : Int) t160 t161 w _ ?side1 ?side2 A10.out).mono ?_); (case side1 => repeat (first | (with_reducible first | exact HI151.out | apply IsS118.alloc | apply IsS118.drewN | apply IsS118.drew | apply IsS118.set_1) | exact HI151.out)); (case side2 => repeat (first | (with_reducible first | exact HB.out | apply below_alloc | apply pw_below_drewN | apply below_drew1 | refine below_set ?_ (IsS118.ge HI151.out)) | exact HB.out)); rintro e w26 ⟨rfl, hi, hb, hk⟩; refine ⟨_, rfl, ?_⟩; have n0_ := Aside0.mk (hb); have n1_ := Aside0.mk (hi); clear HB; clear HI151; have HB := n0_; have HI151 := n1_; clear n0_ n1_; (try clear hb); (try clear hb2); (try clear hk); (try clear hi)))
                        have pi167 : (0 ≤ (t165 : Int)) = True := eq_true (of_decide_eq_true (by first | (with_reducible assumption) | assumption))
                        have qi167 : (t165 < (y162.length : Int)) = True := eq_true (of_decide_eq_true (by first | (with_reducible assumption) | assumption))
                        have n0_ := Aside0.mk (IsS118.drew HI151.out)
                        have n1_ := Aside0.mk (below_drew1 HB.out)
                        clear HI151
                        clear HB
                        have HI151 := n0_
                        have HB := n1_
                        clear n0_ n1_
                        refine start_ (n := 17) (S := fun w' => True) (ds := []) #[false, false, false, false, false, false, false, false, false, false, false, false, false, false, false, false, false] (by kernel_rfl) rfl rfl trivial (fun hHeld => ?_); refine with_tabW spec_DrawReadRule.tab6 spec_DrawReadRule.bits6 (fun HT_ HW_ => ?_)
                        generalize w26.drew = w27 at HI151 HB hHeld ⊢
                        refine pure_ (i := 0) (N := some 26) (v := ?_) (a' := ?_) #[true, false, false, false, false, false, false, false, false, false, false, false, false, false, false, false, false] rfl rfl (any_of HT_.out (by kernel_rfl)) (fun _ _ _ h => h) (Or.inl ⟨by rfl, ?_⟩) ?_ ?_
                        rotate_left
                        · intro w'
                          go_simp
                          with_reducible rfl
                        rotate_left
                        · simp only [Act.put, List.setIfInBounds_toArray, List.set_cons_zero, List.set_cons_succ, i64_w, i32_w]
                          rfl
                        refine pure_ (i := 1) (N := some 27) (v := ?_) (a' := ?_) #[true, true, false, false, false, false, false, false, false, false, false, false, false, false, false, false, false] rfl rfl (any_of HT_.out (by kernel_rfl)) (fun _ _ _ h => h) (Or.inl ⟨by rfl, ?_⟩) ?_ ?_
                        rotate_left
                        · intro w'
                          go_simp
                          with_reducible rfl
                        rotate_left
                        · simp only [Act.put, List.setIfInBounds_toArray, List.set_cons_zero, List.set_cons_succ, i64_w, i32_w]
                          rfl
                        refine pure_ (i := 2) (N := some 28) (v := ?_) (a' := ?_) #[true, true, true, false, false, false, false, false, false, false, false, false, false, false, false, false, false] rfl rfl (any_of HT_.out (by kernel_rfl)) (fun _ _ _ h => h) (Or.inl ⟨by rfl, ?_⟩) ?_ ?_
                        rotate_left
                        · intro w'
                          go_simp
                          with_reducible rfl
                        rotate_left
                        · simp only [Act.put, List.setIfInBounds_toArray, List.set_cons_zero, List.set_cons_succ, i64_w, i32_w]
                          rfl
                        refine pure_ (i := 5) (N := some 31) (v := ?_) (a' := ?_) #[true, true, true, false, false, true, false, false, false, false, false, false, false, false, false, false, false] rfl rfl (any_of HT_.out (by kernel_rfl)) (fun _ _ _ h => h) (Or.inl ⟨by rfl, ?_⟩) ?_ ?_
                        rotate_left
                        · intro w'
                          go_simp
                          with_reducible rfl
                        rotate_left
                        · simp only [Act.put, List.setIfInBounds_toArray, List.set_cons_zero, List.set_cons_succ, i64_w, i32_w]
                          rfl
                        refine pure_ (i := 10) (N := some 36) (v := ?_) (a' := ?_) #[true, true, true, false, false, true, false, false, false, false, true, false, false, false, false, false, false] rfl rfl (any_of HT_.out (by kernel_rfl)) (fun _ _ _ h => h) (Or.inl ⟨by rfl, ?_⟩) ?_ ?_
                        rotate_left
                        · intro w'
                          go_simp
                          with_reducible rfl
                        rotate_left
                        · simp only [Act.put, List.setIfInBounds_toArray, List.set_cons_zero, List.set_cons_succ, i64_w, i32_w]
                          rfl
                        refine pure_ (i := 11) (N := some 37) (v := ?_) (a' := ?_) #[true, true, true, false, false, true, false, false, false, false, true, true, false, false, false, false, false] rfl rfl (any_of HT_.out (by kernel_rfl)) (fun _ _ _ h => h) (Or.inl ⟨by rfl, ?_⟩) ?_ ?_
                        rotate_left
                        · intro w'
                          go_simp
                          with_reducible rfl
                        rotate_left
                        · simp only [Act.put, List.setIfInBounds_toArray, List.set_cons_zero, List.set_cons_succ, i64_w, i32_w]
                          rfl
                        refine inv_at [3, 4, 6, 7, 8, 9, 12, 13, 14, 15, 16] (fun a0_ b a w' => ∃ (v163 : Value) (adz_v163 : Addr) (m7_ : Value), a = putSel a0_ b [(3, 29, .string (((t154 ++ (⟨#[45, 62]⟩ : ByteArray)) ++ t156).extract 0 (t160 : Int).toNat)), (4, 30, v163), (6, 32, .int .i64 t165), (7, 33, m7_), (8, 34, .string (rdOf ByteArray.empty y162 t165)), (9, 35, .string ((((t154 ++ (⟨#[45, 62]⟩ : ByteArray)) ++ t156).extract 0 (t160 : Int).toNat) ++ (rdOf ByteArray.empty y162 t165))), (12, 38, .int .i64 ji17), (13, 39, .string (((t154 ++ (⟨#[45, 62]⟩ : ByteArray)) ++ t156).extract ((ji17) : Int).toNat ((t154 ++ (⟨#[45, 62]⟩ : ByteArray)) ++ t156).size)), (14, 40, .string (((((t154 ++ (⟨#[45, 62]⟩ : ByteArray)) ++ t156).extract 0 (t160 : Int).toNat) ++ (rdOf ByteArray.empty y162 t165)) ++ (((t154 ++ (⟨#[45, 62]⟩ : ByteArray)) ++ t156).extract ((ji17) : Int).toNat ((t154 ++ (⟨#[45, 62]⟩ : ByteArray)) ++ t156).size))), (15, 2, .int .i64 t152), (16, 3, .string (((((t154 ++ (⟨#[45, 62]⟩ : ByteArray)) ++ t156).extract 0 (t160 : Int).toNat) ++ (rdOf ByteArray.empty y162 t165)) ++ (((t154 ++ (⟨#[45, 62]⟩ : ByteArray)) ++ t156).extract ((ji17) : Int).toNat ((t154 ++ (⟨#[45, 62]⟩ : ByteArray)) ++ t156).size)))] ∧ (b 6 = false → IsS118 w w' g151 t149 t161) ∧ (Below w.heap.size w w') ∧ (b 4 = true → Kd.R Kd.string 9 w' w.heap.size (fun _ => True) v163 y162) ∧ (b 4 = true → ∃ c_, (v163 : Value) = .slice (some adz_v163) y162.length c_) ∧ (b 6 = true → IsS118 w w' g151 t149 t166) ∧ (b 7 = true → (m7_ : Value) = .pointer (some (adz_v163.add (t165).toNat)))) HT_.out HW_.out (by kernel_rfl) (by kernel_rfl) ?_ ?_ ?_
                        · exact ⟨.bool false, ⟨0, 0, none⟩, .bool false, by simp only [putSel, Bool.false_eq_true, if_false], fun _ => HI151.out, HB.out, fun h_ => absurd h_ (by decide), fun h_ => absurd h_ (by decide), fun h_ => absurd h_ (by decide), fun h_ => absurd h_ (by decide)⟩
                        · skip
                          clear HB HI151
                          refine steps_cons ?_ ?_
                          · rintro b a w' ⟨v163, adz_v163, m7_, ha, Q_HI151, Q_HB, Q_HO164, Q_HA_HO164, Q_HI151_e6, Q_X7_⟩ hb_ hon hoff
                            refine ⟨_, rfl, fun K hK => ?_⟩
                            have e27 : a.tmps[27]? = some (.string ((t154 ++ (⟨#[45, 62]⟩ : ByteArray)) ++ t156)) := by rw [ha]; exact (putSel_off rfl).trans rfl
                            have e28 : a.tmps[28]? = some (.int .i64 t160) := by rw [ha]; exact (putSel_off rfl).trans rfl
                            replace ha := Aside0.mk ha
                            have HB := Aside0.mk Q_HB
                            refine value_ (w1 := w') (v := .string (((t154 ++ (⟨#[45, 62]⟩ : ByteArray)) ++ t156).extract 0 (t160 : Int).toNat)) (by rfl) rfl ?_ ?_
                            · go_simp
                              (try simp only [i64_w])
                              try rfl
                              try (intro h9_; exact absurd h9_ (Int.not_lt.2 (of_decide_eq_true (by assumption))))
                              try (have h1_ := of_decide_eq_true c12b19; have h2_ := of_eq_true c16b7; omega)
                              try (have h1_ := of_decide_eq_true c12b19; have h2_ := of_eq_true c20b7; omega)
                            refine hK.out _ _ ⟨v163, adz_v163, m7_, (by rw [ha.out]; exact putSel_upk 0 hb_ rfl rfl rfl), Q_HI151, Q_HB, Q_HO164, Q_HA_HO164, Q_HI151_e6, Q_X7_⟩
                          refine steps_cons ?_ ?_
                          · rintro b a w' ⟨v163, adz_v163, m7_, ha, Q_HI151, Q_HB, Q_HO164, Q_HA_HO164, Q_HI151_e6, Q_X7_⟩ hb_ hon hoff
                            refine ⟨_, rfl, fun K hK => ?_⟩
                            replace ha := Aside0.mk ha
                            have HB := Aside0.mk Q_HB
                            refine Kd.R_lit_step Kd.string _ 9 ?hg (N := 30) ?hd (xs := ([(⟨#[]⟩ : ByteArray), (⟨#[45]⟩ : ByteArray), (⟨#[62]⟩ : ByteArray), (⟨#[97]⟩ : ByteArray), (⟨#[40]⟩ : ByteArray)] : List ByteArray)) (inner := [.string (⟨#[]⟩ : ByteArray), .string (⟨#[45]⟩ : ByteArray), .string (⟨#[62]⟩ : ByteArray), .string (⟨#[97]⟩ : ByteArray), .string (⟨#[40]⟩ : ByteArray)]) (ok := fun _ => True) (okp := fun _ => True) ?hr ?hp (fun _ hk => hk) trivial (Below.refl _ _) (Nat.le_refl _) (by simp) ?_; (case hd => rfl); (case hg => rfl); (case hr => first | (go_simp; done) | (go_simp; rfl)); (case hp => exact (Reps.one (show Kd.M Kd.string _ _ _ (⟨#[]⟩ : ByteArray) [.string (⟨#[]⟩ : ByteArray)] from rfl) (Reps.one (show Kd.M Kd.string _ _ _ (⟨#[45]⟩ : ByteArray) [.string (⟨#[45]⟩ : ByteArray)] from rfl) (Reps.one (show Kd.M Kd.string _ _ _ (⟨#[62]⟩ : ByteArray) [.string (⟨#[62]⟩ : ByteArray)] from rfl) (Reps.one (show Kd.M Kd.string _ _ _ (⟨#[97]⟩ : ByteArray) [.string (⟨#[97]⟩ : ByteArray)] from rfl) (Reps.one (show Kd.M Kd.string _ _ _ (⟨#[40]⟩ : ByteArray) [.string (⟨#[40]⟩ : ByteArray)] from rfl) (Reps.none _ _)))))))
                            intro v163 w28 ho29 hb hg_ hnew_
                            clear hg_ hnew_
                            (first | rw [← Ny162.out] at ho29 | (simp only [Int.reduceToNat] at ho29; rw [← Ny162.out] at ho29))
                            have n0_ := Aside0.mk (Kd.R_lower ho29 (below_size (by repeat (first | (with_reducible first | exact HB.out | apply below_alloc | apply pw_below_drewN | apply below_drew1) | exact HB.out))))
                            have n2_ := Aside0.mk (below_step (by repeat (first | (with_reducible first | exact HB.out | apply below_alloc | apply pw_below_drewN | apply below_drew1) | exact HB.out)) hb)
                            have z_HI151 := fun (h0_ : b 6 = false) => (show IsS118 w w28 g151 t149 t161 from by first | exact (IsS118.below (by repeat (first | (with_reducible first | exact (Q_HI151 h0_) | apply IsS118.alloc | apply IsS118.drewN | apply IsS118.drew | apply IsS118.set_1) | exact (Q_HI151 h0_))) hb))
                            have z_HI151_e6 := fun (h0_ : b 6 = true) => (show IsS118 w w28 g151 t149 t166 from by first | exact (IsS118.below (by repeat (first | (with_reducible first | exact (Q_HI151_e6 h0_) | apply IsS118.alloc | apply IsS118.drewN | apply IsS118.drew | apply IsS118.set_1) | exact (Q_HI151_e6 h0_))) hb))
                            clear HB
                            have HO164 := n0_
                            have HB := n2_
                            clear n0_ n2_
                            clear hb ho29
                            obtain ⟨Ao30, co30, eo30⟩ := Kd.R_slice HO164.out
                            subst eo30
                            obtain ⟨ado30, fo30, _⟩ := Kd.at_string (Kd.R_reads' HO164.out).2.2 0 (by decide) (by rw [Ny162.out]; simp)
                            cases fo30
                            refine hK.out _ _ ⟨.slice (some ado30) y162.length co30, ado30, m7_, (by rw [ha.out]; exact putSel_upk 1 hb_ rfl rfl rfl), z_HI151, (by repeat (first | (with_reducible first | exact HB.out | apply below_alloc | apply pw_below_drewN | apply below_drew1) | exact HB.out)), fun _ => (by (with_reducible repeat (first | apply Kd.R_alloc | apply Kd.R_drewN | apply Kd.R_drew)); exact HO164.out), fun _ => ⟨_, rfl⟩, z_HI151_e6, fun h0_ => absurd ((hoff 7 (by kernel_rfl)).symm.trans h0_) (by decide)⟩
                          refine steps_cons ?_ ?_
                          · rintro b a w' ⟨v163, adz_v163, m7_, ha, Q_HI151, Q_HB, Q_HO164, Q_HA_HO164, Q_HI151_e6, Q_X7_⟩ hb_ hon hoff
                            refine ⟨_, rfl, fun K hK => ?_⟩
                            have e31 : a.tmps[31]? = some (.pointer (some ⟨g151, 0, none⟩)) := by rw [ha]; exact (putSel_off rfl).trans rfl
                            replace ha := Aside0.mk ha
                            have HI151 := Aside0.mk (Q_HI151 hb_)
                            have HB := Aside0.mk Q_HB
                            refine goes_ Try.func82 (by kernel_rfl) rfl #[.pointer (some ⟨g151, 0, none⟩), .int .i64 5] (by rfl) rfl rfl (by first | (simp only [List.map_toArray, List.map_cons, List.map_nil, Act.eval, Array.getD_eq_getD_getElem?, Option.getD_some, e31]; done) | (simp only [List.map_toArray, List.map_cons, List.map_nil, Act.eval, Array.getD_eq_getD_getElem?, Option.getD_some, e31]; rfl)) ?_
                            with_reducible refine (spec_l20Rd_pick.calls k g151 t149 t161 5 t165 t166 w _ ?side1 ?side2 A13.out).mono ?_
                            (case side1 => repeat (first | (with_reducible first | exact HI151.out | apply IsS118.alloc | apply IsS118.drewN | apply IsS118.drew | apply IsS118.set_1) | exact HI151.out))
                            (case side2 => repeat (first | (with_reducible first | exact HB.out | apply below_alloc | apply pw_below_drewN | apply below_drew1 | refine below_set ?_ (IsS118.ge HI151.out)) | exact HB.out))
                            rintro e w28 ⟨rfl, hi, hb, hk⟩
                            refine ⟨_, rfl, ?_⟩
                            have n0_ := Aside0.mk (hb)
                            have n1_ := Aside0.mk (hi)
                            have z_HO164 := fun (h0_ : b 4 = true) => (show Kd.R Kd.string 9 w28 w.heap.size (fun _ => True) v163 y162 from by first | exact (Kd.R_mono (Kd.R_keep (IsS118.apart (show IsS118 w _ g151 t149 t161 from by repeat (first | (with_reducible first | exact HI151.out | apply IsS118.alloc | apply IsS118.drewN | apply IsS118.drew | apply IsS118.set_1) | exact HI151.out)) (by (with_reducible repeat (first | apply Kd.R_alloc | apply Kd.R_drewN | apply Kd.R_drew)); exact (Q_HO164 h0_)) (by decide)) hk (fun _ h => h.2)) (fun _ h => h.1)) | exact Kd.R_mono (Kd.R_mono (Kd.R_keep (IsS118.apart (show IsS118 w _ g151 t149 t161 from by repeat (first | (with_reducible first | exact HI151.out | apply IsS118.alloc | apply IsS118.drewN | apply IsS118.drew | apply IsS118.set_1) | exact HI151.out)) (by (with_reducible repeat (first | apply Kd.R_alloc | apply Kd.R_drewN | apply Kd.R_drew)); exact (Q_HO164 h0_)) (by decide)) hk (fun _ h => h.2)) (fun _ h => h.1)) (fun _ h_ => by first | trivial | exact h_ | exact h_.1))
                            clear HB
                            clear HI151
                            have HB := n0_
                            have HI151 := n1_
                            clear n0_ n1_
                            (try clear hb)
                            (try clear hb2)
                            (try clear hk)
                            (try clear hi)
                            refine hK.out _ _ ⟨v163, adz_v163, m7_, (by rw [ha.out]; exact putSel_upk 2 hb_ rfl rfl rfl), fun h0_ => absurd ((up_self b 6).symm.trans h0_) (by decide), (by repeat (first | (with_reducible first | exact HB.out | apply below_alloc | apply pw_below_drewN | apply below_drew1 | refine below_set ?_ (IsS118.ge HI151.out)) | exact HB.out)), z_HO164, Q_HA_HO164, fun _ => (by repeat (first | (with_reducible first | exact HI151.out | apply IsS118.alloc | apply IsS118.drewN | apply IsS118.drew | apply IsS118.set_1) | exact HI151.out)), fun h0_ => absurd ((hoff 7 (by kernel_rfl)).symm.trans h0_) (by decide)⟩
                          refine steps_cons ?_ ?_
                          · rintro b a w' ⟨v163, adz_v163, m7_, ha, Q_HI151, Q_HB, Q_HO164, Q_HA_HO164, Q_HI151_e6, Q_X7_⟩ hb_ hon hoff
                            refine ⟨_, rfl, fun K hK => ?_⟩
                            have e30 : a.tmps[30]? = some (v163) := by rw [ha]; exact putSel_on (e := (4, 30, v163)) 1 rfl rfl (hon 4 (by kernel_rfl)) rfl
                            have e32 : a.tmps[32]? = some (.int .i64 t165) := by rw [ha]; exact putSel_on (e := (6, 32, .int .i64 t165)) 2 rfl rfl (hon 6 (by kernel_rfl)) rfl
                            replace ha := Aside0.mk ha
                            have HB := Aside0.mk Q_HB
                            have HO164 := Aside0.mk (Q_HO164 (hon 4 (by kernel_rfl)))
                            have HA_HO164 := Aside0.mk (Q_HA_HO164 (hon 4 (by kernel_rfl)))
                            have HI151 := Aside0.mk (Q_HI151_e6 (hon 6 (by kernel_rfl)))
                            obtain ⟨c_, hv_⟩ := HA_HO164.out
                            rw [hv_] at e30
                            refine value_ (w1 := w') (v := .pointer (some (adz_v163.add (t165).toNat))) (by rfl) rfl ?_ ?_
                            · go_simp
                              (try simp only [i64_w])
                              try rfl
                              try (intro h9_; exact absurd h9_ (Int.not_lt.2 (of_decide_eq_true (by assumption))))
                              try (have h1_ := of_decide_eq_true c12b19; have h2_ := of_eq_true c16b7; omega)
                              try (have h1_ := of_decide_eq_true c12b19; have h2_ := of_eq_true c20b7; omega)
                            refine hK.out _ _ ⟨v163, adz_v163, (.pointer (some (adz_v163.add (t165).toNat))), (by rw [ha.out]; exact putSel_upk 3 hb_ rfl rfl rfl), fun h0_ => absurd ((hon 6 (by kernel_rfl)).symm.trans h0_) (by decide), Q_HB, Q_HO164, Q_HA_HO164, Q_HI151_e6, fun _ => rfl⟩
                          refine steps_cons ?_ ?_
                          · rintro b a w' ⟨v163, adz_v163, m7_, ha, Q_HI151, Q_HB, Q_HO164, Q_HA_HO164, Q_HI151_e6, Q_X7_⟩ hb_ hon hoff
                            refine ⟨_, rfl, fun K hK => ?_⟩
                            have e33 : a.tmps[33]? = some (m7_) := by rw [ha]; exact putSel_on (e := (7, 33, m7_)) 3 rfl rfl (hon 7 (by kernel_rfl)) rfl
                            rw [Q_X7_ (hon 7 (by kernel_rfl))] at e33
                            replace ha := Aside0.mk ha
                            have HB := Aside0.mk Q_HB
                            have HO164 := Aside0.mk (Q_HO164 (hon 4 (by kernel_rfl)))
                            have HA_HO164 := Aside0.mk (Q_HA_HO164 (hon 4 (by kernel_rfl)))
                            have HI151 := Aside0.mk (Q_HI151_e6 (hon 6 (by kernel_rfl)))
                            obtain ⟨c_, hv_⟩ := HA_HO164.out
                            have hF_ := HO164.out
                            rw [hv_] at hF_
                            obtain ⟨ad_, ea_, hx_⟩ := Kd.at_string (Kd.R_reads' hF_).2.2 t165 (of_eq_true pi167) (of_eq_true qi167)
                            cases ea_
                            refine value_ (w1 := w') (v := .string (rdOf ByteArray.empty y162 t165)) (by rfl) rfl ?_ ?_
                            · go_simp
                              (try simp only [i64_w])
                              try rfl
                              try (intro h9_; exact absurd h9_ (Int.not_lt.2 (of_decide_eq_true (by assumption))))
                              try (have h1_ := of_decide_eq_true c12b19; have h2_ := of_eq_true c16b7; omega)
                              try (have h1_ := of_decide_eq_true c12b19; have h2_ := of_eq_true c20b7; omega)
                            refine hK.out _ _ ⟨v163, adz_v163, m7_, (by rw [ha.out]; exact putSel_upk 4 hb_ rfl rfl rfl), fun h0_ => absurd ((hon 6 (by kernel_rfl)).symm.trans h0_) (by decide), Q_HB, Q_HO164, Q_HA_HO164, Q_HI151_e6, Q_X7_⟩
                          refine steps_cons ?_ ?_
                          · rintro b a w' ⟨v163, adz_v163, m7_, ha, Q_HI151, Q_HB, Q_HO164, Q_HA_HO164, Q_HI151_e6, Q_X7_⟩ hb_ hon hoff
                            refine ⟨_, rfl, fun K hK => ?_⟩
                            have e29 : a.tmps[29]? = some (.string (((t154 ++ (⟨#[45, 62]⟩ : ByteArray)) ++ t156).extract 0 (t160 : Int).toNat)) := by rw [ha]; exact putSel_on (e := (3, 29, .string (((t154 ++ (⟨#[45, 62]⟩ : ByteArray)) ++ t156).extract 0 (t160 : Int).toNat))) 0 rfl rfl (hon 3 (by kernel_rfl)) rfl
                            have e34 : a.tmps[34]? = some (.string (rdOf ByteArray.empty y162 t165)) := by rw [ha]; exact putSel_on (e := (8, 34, .string (rdOf ByteArray.empty y162 t165))) 4 rfl rfl (hon 8 (by kernel_rfl)) rfl
                            replace ha := Aside0.mk ha
                            have HB := Aside0.mk Q_HB
                            have HO164 := Aside0.mk (Q_HO164 (hon 4 (by kernel_rfl)))
                            have HA_HO164 := Aside0.mk (Q_HA_HO164 (hon 4 (by kernel_rfl)))
                            have HI151 := Aside0.mk (Q_HI151_e6 (hon 6 (by kernel_rfl)))
                            refine value_ (w1 := w') (v := .string ((((t154 ++ (⟨#[45, 62]⟩ : ByteArray)) ++ t156).extract 0 (t160 : Int).toNat) ++ (rdOf ByteArray.empty y162 t165))) (by rfl) rfl ?_ ?_
                            · go_simp
                              (try simp only [i64_w])
                              try rfl
                              try (intro h9_; exact absurd h9_ (Int.not_lt.2 (of_decide_eq_true (by assumption))))
                              try (have h1_ := of_decide_eq_true c12b19; have h2_ := of_eq_true c16b7; omega)
                              try (have h1_ := of_decide_eq_true c12b19; have h2_ := of_eq_true c20b7; omega)
                            refine hK.out _ _ ⟨v163, adz_v163, m7_, (by rw [ha.out]; exact putSel_upk 5 hb_ rfl rfl rfl), fun h0_ => absurd ((hon 6 (by kernel_rfl)).symm.trans h0_) (by decide), Q_HB, Q_HO164, Q_HA_HO164, Q_HI151_e6, Q_X7_⟩
                          refine steps_cons ?_ ?_
                          · rintro b a w' ⟨v163, adz_v163, m7_, ha, Q_HI151, Q_HB, Q_HO164, Q_HA_HO164, Q_HI151_e6, Q_X7_⟩ hb_ hon hoff
                            refine ⟨_, rfl, fun K hK => ?_⟩
                            have e37 : a.tmps[37]? = some (.int .i64 t160) := by rw [ha]; exact (putSel_off rfl).trans rfl
                            replace ha := Aside0.mk ha
                            have HB := Aside0.mk Q_HB
                            refine value_ (w1 := w') (v := .int .i64 ji17) (by rfl) rfl ?_ ?_
                            · go_simp
                              (try simp only [i64_w])
                              try rfl
                              try (intro h9_; exact absurd h9_ (Int.not_lt.2 (of_decide_eq_true (by assumption))))
                              try (have h1_ := of_decide_eq_true c12b19; have h2_ := of_eq_true c16b7; omega)
                              try (have h1_ := of_decide_eq_true c12b19; have h2_ := of_eq_true c20b7; omega)
                            refine hK.out _ _ ⟨v163, adz_v163, m7_, (by rw [ha.out]; exact putSel_upk 6 hb_ rfl rfl rfl), Q_HI151, Q_HB, Q_HO164, Q_HA_HO164, Q_HI151_e6, Q_X7_⟩
                          refine steps_cons ?_ ?_
                          · rintro b a w' ⟨v163, adz_v163, m7_, ha, Q_HI151, Q_HB, Q_HO164, Q_HA_HO164, Q_HI151_e6, Q_X7_⟩ hb_ hon hoff
                            refine ⟨_, rfl, fun K hK => ?_⟩
                            have e36 : a.tmps[36]? = some (.string ((t154 ++ (⟨#[45, 62]⟩ : ByteArray)) ++ t156)) := by rw [ha]; exact (putSel_off rfl).trans rfl
                            have e38 : a.tmps[38]? = some (.int .i64 ji17) := by rw [ha]; exact putSel_on (e := (12, 38, .int .i64 ji17)) 6 rfl rfl (hon 12 (by kernel_rfl)) rfl
                            replace ha := Aside0.mk ha
                            have HB := Aside0.mk Q_HB
                            refine value_ (w1 := w') (v := .string (((t154 ++ (⟨#[45, 62]⟩ : ByteArray)) ++ t156).extract ((ji17) : Int).toNat ((t154 ++ (⟨#[45, 62]⟩ : ByteArray)) ++ t156).size)) (by rfl) rfl ?_ ?_
                            · go_simp
                              (try simp only [i64_w])
                              try rfl
                              try (intro h9_; exact absurd h9_ (Int.not_lt.2 (of_decide_eq_true (by assumption))))
                              try (have h1_ := of_decide_eq_true c12b19; have h2_ := of_eq_true c16b7; omega)
                              try (have h1_ := of_decide_eq_true c12b19; have h2_ := of_eq_true c20b7; omega)
                            refine hK.out _ _ ⟨v163, adz_v163, m7_, (by rw [ha.out]; exact putSel_upk 7 hb_ rfl rfl rfl), Q_HI151, Q_HB, Q_HO164, Q_HA_HO164, Q_HI151_e6, Q_X7_⟩
                          refine steps_cons ?_ ?_
                          · rintro b a w' ⟨v163, adz_v163, m7_, ha, Q_HI151, Q_HB, Q_HO164, Q_HA_HO164, Q_HI151_e6, Q_X7_⟩ hb_ hon hoff
                            refine ⟨_, rfl, fun K hK => ?_⟩
                            have e35 : a.tmps[35]? = some (.string ((((t154 ++ (⟨#[45, 62]⟩ : ByteArray)) ++ t156).extract 0 (t160 : Int).toNat) ++ (rdOf ByteArray.empty y162 t165))) := by rw [ha]; exact putSel_on (e := (9, 35, .string ((((t154 ++ (⟨#[45, 62]⟩ : ByteArray)) ++ t156).extract 0 (t160 : Int).toNat) ++ (rdOf ByteArray.empty y162 t165)))) 5 rfl rfl (hon 9 (by kernel_rfl)) rfl
                            have e39 : a.tmps[39]? = some (.string (((t154 ++ (⟨#[45, 62]⟩ : ByteArray)) ++ t156).extract ((ji17) : Int).toNat ((t154 ++ (⟨#[45, 62]⟩ : ByteArray)) ++ t156).size)) := by rw [ha]; exact putSel_on (e := (13, 39, .string (((t154 ++ (⟨#[45, 62]⟩ : ByteArray)) ++ t156).extract ((ji17) : Int).toNat ((t154 ++ (⟨#[45, 62]⟩ : ByteArray)) ++ t156).size))) 7 rfl rfl (hon 13 (by kernel_rfl)) rfl
                            replace ha := Aside0.mk ha
                            have HB := Aside0.mk Q_HB
                            have HO164 := Aside0.mk (Q_HO164 (hon 4 (by kernel_rfl)))
                            have HA_HO164 := Aside0.mk (Q_HA_HO164 (hon 4 (by kernel_rfl)))
                            have HI151 := Aside0.mk (Q_HI151_e6 (hon 6 (by kernel_rfl)))
                            refine value_ (w1 := w') (v := .string (((((t154 ++ (⟨#[45, 62]⟩ : ByteArray)) ++ t156).extract 0 (t160 : Int).toNat) ++ (rdOf ByteArray.empty y162 t165)) ++ (((t154 ++ (⟨#[45, 62]⟩ : ByteArray)) ++ t156).extract ((ji17) : Int).toNat ((t154 ++ (⟨#[45, 62]⟩ : ByteArray)) ++ t156).size))) (by rfl) rfl ?_ ?_
                            · go_simp
                              (try simp only [i64_w])
                              try rfl
                              try (intro h9_; exact absurd h9_ (Int.not_lt.2 (of_decide_eq_true (by assumption))))
                              try (have h1_ := of_decide_eq_true c12b19; have h2_ := of_eq_true c16b7; omega)
                              try (have h1_ := of_decide_eq_true c12b19; have h2_ := of_eq_true c20b7; omega)
                            refine hK.out _ _ ⟨v163, adz_v163, m7_, (by rw [ha.out]; exact putSel_upk 8 hb_ rfl rfl rfl), fun h0_ => absurd ((hon 6 (by kernel_rfl)).symm.trans h0_) (by decide), Q_HB, Q_HO164, Q_HA_HO164, Q_HI151_e6, Q_X7_⟩
                          refine steps_cons ?_ ?_
                          · rintro b a w' ⟨v163, adz_v163, m7_, ha, Q_HI151, Q_HB, Q_HO164, Q_HA_HO164, Q_HI151_e6, Q_X7_⟩ hb_ hon hoff
                            refine ⟨_, rfl, fun K hK => ?_⟩
                            have e26 : a.tmps[26]? = some (.int .i64 t152) := by rw [ha]; exact (putSel_off rfl).trans rfl
                            replace ha := Aside0.mk ha
                            have HB := Aside0.mk Q_HB
                            have HI151 := Aside0.mk (Q_HI151_e6 (hon 6 (by kernel_rfl)))
                            refine value_ (w1 := w') (v := .int .i64 t152) (by rfl) rfl ?_ ?_
                            · go_simp
                              (try simp only [i64_w])
                              try rfl
                              try (intro h9_; exact absurd h9_ (Int.not_lt.2 (of_decide_eq_true (by assumption))))
                              try (have h1_ := of_decide_eq_true c12b19; have h2_ := of_eq_true c16b7; omega)
                              try (have h1_ := of_decide_eq_true c12b19; have h2_ := of_eq_true c20b7; omega)
                            refine hK.out _ _ ⟨v163, adz_v163, m7_, (by rw [ha.out]; exact putSel_upk 9 hb_ rfl rfl rfl), fun h0_ => absurd ((hon 6 (by kernel_rfl)).symm.trans h0_) (by decide), Q_HB, Q_HO164, Q_HA_HO164, Q_HI151_e6, Q_X7_⟩
                          refine steps_cons ?_ ?_
                          · rintro b a w' ⟨v163, adz_v163, m7_, ha, Q_HI151, Q_HB, Q_HO164, Q_HA_HO164, Q_HI151_e6, Q_X7_⟩ hb_ hon hoff
                            refine ⟨_, rfl, fun K hK => ?_⟩
                            have e40 : a.tmps[40]? = some (.string (((((t154 ++ (⟨#[45, 62]⟩ : ByteArray)) ++ t156).extract 0 (t160 : Int).toNat) ++ (rdOf ByteArray.empty y162 t165)) ++ (((t154 ++ (⟨#[45, 62]⟩ : ByteArray)) ++ t156).extract ((ji17) : Int).toNat ((t154 ++ (⟨#[45, 62]⟩ : ByteArray)) ++ t156).size))) := by rw [ha]; exact putSel_on (e := (14, 40, .string (((((t154 ++ (⟨#[45, 62]⟩ : ByteArray)) ++ t156).extract 0 (t160 : Int).toNat) ++ (rdOf ByteArray.empty y162 t165)) ++ (((t154 ++ (⟨#[45, 62]⟩ : ByteArray)) ++ t156).extract ((ji17) : Int).toNat ((t154 ++ (⟨#[45, 62]⟩ : ByteArray)) ++ t156).size)))) 8 rfl rfl (hon 14 (by kernel_rfl)) rfl
                            replace ha := Aside0.mk ha
                            have HB := Aside0.mk Q_HB
                            have HO164 := Aside0.mk (Q_HO164 (hon 4 (by kernel_rfl)))
                            have HA_HO164 := Aside0.mk (Q_HA_HO164 (hon 4 (by kernel_rfl)))
                            have HI151 := Aside0.mk (Q_HI151_e6 (hon 6 (by kernel_rfl)))
                            refine value_ (w1 := w') (v := .string (((((t154 ++ (⟨#[45, 62]⟩ : ByteArray)) ++ t156).extract 0 (t160 : Int).toNat) ++ (rdOf ByteArray.empty y162 t165)) ++ (((t154 ++ (⟨#[45, 62]⟩ : ByteArray)) ++ t156).extract ((ji17) : Int).toNat ((t154 ++ (⟨#[45, 62]⟩ : ByteArray)) ++ t156).size))) (by rfl) rfl ?_ ?_
                            · go_simp
                              (try simp only [i64_w])
                              try rfl
                              try (intro h9_; exact absurd h9_ (Int.not_lt.2 (of_decide_eq_true (by assumption))))
                              try (have h1_ := of_decide_eq_true c12b19; have h2_ := of_eq_true c16b7; omega)
                              try (have h1_ := of_decide_eq_true c12b19; have h2_ := of_eq_true c20b7; omega)
                            refine hK.out _ _ ⟨v163, adz_v163, m7_, (by rw [ha.out]; exact putSel_upk 10 hb_ rfl rfl rfl), fun h0_ => absurd ((hon 6 (by kernel_rfl)).symm.trans h0_) (by decide), Q_HB, Q_HO164, Q_HA_HO164, Q_HI151_e6, Q_X7_⟩
                          exact steps_nil
                        rintro b a w32 hall ⟨v163, adz_v163, m7_, ha, Q_HI151, Q_HB, Q_HO164, Q_HA_HO164, Q_HI151_e6, Q_X7_⟩
                        clear HB HI151
                        have hb3_ := hall 3 (by kernel_rfl)
                        have hb4_ := hall 4 (by kernel_rfl)
                        have hb6_ := hall 6 (by kernel_rfl)
                        have hb7_ := hall 7 (by kernel_rfl)
                        have hb8_ := hall 8 (by kernel_rfl)
                        have hb9_ := hall 9 (by kernel_rfl)
                        have hb12_ := hall 12 (by kernel_rfl)
                        have hb13_ := hall 13 (by kernel_rfl)
                        have hb14_ := hall 14 (by kernel_rfl)
                        have hb15_ := hall 15 (by kernel_rfl)
                        have hb16_ := hall 16 (by kernel_rfl)
                        subst ha
                        obtain rfl := Q_X7_ hb7_
                        simp only [putSel, hb3_, hb4_, hb6_, hb7_, hb8_, hb9_, hb12_, hb13_, hb14_, hb15_, hb16_, if_true, Act.put, List.setIfInBounds_toArray, List.set_cons_zero, List.set_cons_succ]
                        clear Q_HI151
                        have HB := Aside0.mk Q_HB
                        clear Q_HB
                        have HO164 := Aside0.mk (Q_HO164 hb4_)
                        clear Q_HO164
                        have HA_HO164 := Aside0.mk (Q_HA_HO164 hb4_)
                        clear Q_HA_HO164
                        have HI151 := Aside0.mk (Q_HI151_e6 hb6_)
                        clear Q_HI151_e6
                        clear hall hb3_ hb4_ hb6_ hb7_ hb8_ hb9_ hb12_ hb13_ hb14_ hb15_ hb16_
                        obtain ⟨co33, eo33⟩ := HA_HO164.out
                        clear HA_HO164
                        subst eo33
                        try go_wp2
                        go_ret2
                        exact ⟨by first | rfl | (simp [errW_none, errW_some] <;> rfl) | (simp only [← hji17]; first | rfl | (simp [errW_none, errW_some] <;> rfl)) | (simp [*, errW_none, errW_some] <;> rfl), by repeat (first | (with_reducible first | exact HB.out | apply below_alloc | apply pw_below_drewN | apply below_drew1 | refine below_set ?_ (IsS118.ge HI151.out)) | exact HB.out)⟩
                      · rw [if_neg c20] at H
                        exact absurd H (by simp)
                    · rw [if_neg c19] at H
                      exact absurd H (by simp)
                  · rw [if_neg c18] at H
                    exact absurd H (by simp)
                · rw [if_neg c16] at H
                  exact absurd H (by simp)
              · rw [if_neg c15] at H
                exact absurd H (by simp)
            · rw [if_neg c14] at H
              exact absurd H (by simp)
          · rw [if_neg c12] at H
            exact absurd H (by simp)
        · rw [if_neg c11] at H
          exact absurd H (by simp)
      · replace c9 := Bool.eq_false_iff.mpr c9
        subst c9
        have H1 : (some (t152, (t154 ++ (⟨#[45, 62]⟩ : ByteArray)) ++ t156)) = some (r1, r2) := by rw [if_neg (show ¬ (false = true) by decide)] at H; exact H
        clear H
        have H := H1
        clear H1
        simp only [Option.some.injEq, Prod.mk.injEq] at H
        obtain ⟨rfl, rfl⟩ := H
        go_enter Try.func35, Try.ntmps35
        go_wp2_with (first | ((with_reducible refine gate_callee (f := 78) rfl ?_); refine goesL_ (some 9) rfl rfl Try.func78 (by kernel_rfl) rfl #[.slice A0 l0.length c0] rfl (by (try simp only [List.map_toArray, List.map_cons, List.map_nil]); first | done | rfl | (simp only [List.length_drop, List.length_take]; rfl)) ?_; (with_reducible refine (spec_l20Open.calls _ _ l0 t149 t150 w _ ?side1 ?side2 ?side3 A2.out).mono ?_); (case side1 => repeat (first | (with_reducible first | exact HB.out | apply below_alloc | apply pw_below_drewN | apply below_drew1) | exact HB.out)); (case side2 => exact HR0.out); (case side3 => exact HC0.out); rintro e w34 ⟨g151, rfl, hi, hb, hb2⟩; refine ⟨_, rfl, ?_⟩; have n0_ := Aside0.mk (hb); have n1_ := Aside0.mk (hi); clear HB; have HB := n0_; have HI151 := n1_; clear n0_ n1_; (try clear hb); (try clear hb2); (try clear hk); (try clear hi)) | ((with_reducible refine gate_callee (f := 79) rfl ?_); refine goesL_ (some 11) rfl rfl Try.func79 (by kernel_rfl) rfl #[.pointer (some ⟨g151, 0, none⟩), .int .i64 14] rfl (by (try simp only [List.map_toArray, List.map_cons, List.map_nil]); first | done | rfl | (simp only [List.length_drop, List.length_take]; rfl)) ?_; (with_reducible refine (spec_l20Things.calls k g151 t149 t150 14 t152 t153 w _ ?side1 ?side2 A3.out).mono ?_); (case side1 => repeat (first | (with_reducible first | exact HI151.out | apply IsS118.alloc | apply IsS118.drewN | apply IsS118.drew | apply IsS118.set_1) | exact HI151.out)); (case side2 => repeat (first | (with_reducible first | exact HB.out | apply below_alloc | apply pw_below_drewN | apply below_drew1 | refine below_set ?_ (IsS118.ge HI151.out)) | exact HB.out)); rintro e w35 ⟨rfl, hi, hb, hk⟩; refine ⟨_, rfl, ?_⟩; have n0_ := Aside0.mk (hb); have n1_ := Aside0.mk (hi); clear HB; clear HI151; have HB := n0_; have HI151 := n1_; clear n0_ n1_; (try clear hb); (try clear hb2); (try clear hk); (try clear hi)) | ((with_reducible refine gate_callee (f := 80) rfl ?_); refine goesL_ (some 14) rfl rfl Try.func80 (by kernel_rfl) rfl #[.pointer (some ⟨g151, 0, none⟩), .int .i64 t152, .int .i64 2] rfl (by (try simp only [List.map_toArray, List.map_cons, List.map_nil]); first | done | rfl | (simp only [List.length_drop, List.length_take]; rfl)) ?_; (with_reducible refine (spec_l20Sentence.calls k g151 t149 t153 t152 2 t154 t155 w _ ?side1 ?side2 A4.out).mono ?_); (case side1 => repeat (first | (with_reducible first | exact HI151.out | apply IsS118.alloc | apply IsS118.drewN | apply IsS118.drew | apply IsS118.set_1) | exact HI151.out)); (case side2 => repeat (first | (with_reducible first | exact HB.out | apply below_alloc | apply pw_below_drewN | apply below_drew1 | refine below_set ?_ (IsS118.ge HI151.out)) | exact HB.out)); rintro e w36 ⟨rfl, hi, hb, hk⟩; refine ⟨_, rfl, ?_⟩; have n0_ := Aside0.mk (hb); have n1_ := Aside0.mk (hi); clear HB; clear HI151; have HB := n0_; have HI151 := n1_; clear n0_ n1_; (try clear hb); (try clear hb2); (try clear hk); (try clear hi)) | ((with_reducible refine gate_callee (f := 80) rfl ?_); refine goesL_ (some 18) rfl rfl Try.func80 (by kernel_rfl) rfl #[.pointer (some ⟨g151, 0, none⟩), .int .i64 t152, .int .i64 2] rfl (by (try simp only [List.map_toArray, List.map_cons, List.map_nil]); first | done | rfl | (simp only [List.length_drop, List.length_take]; rfl)) ?_; (with_reducible refine (spec_l20Sentence.calls k g151 t149 t155 t152 2 t156 t157 w _ ?side1 ?side2 A6.out).mono ?_); (case side1 => repeat (first | (with_reducible first | exact HI151.out | apply IsS118.alloc | apply IsS118.drewN | apply IsS118.drew | apply IsS118.set_1) | exact HI151.out)); (case side2 => repeat (first | (with_reducible first | exact HB.out | apply below_alloc | apply pw_below_drewN | apply below_drew1 | refine below_set ?_ (IsS118.ge HI151.out)) | exact HB.out)); rintro e w37 ⟨rfl, hi, hb, hk⟩; refine ⟨_, rfl, ?_⟩; have n0_ := Aside0.mk (hb); have n1_ := Aside0.mk (hi); clear HB; clear HI151; have HB := n0_; have HI151 := n1_; clear n0_ n1_; (try clear hb); (try clear hb2); (try clear hk); (try clear hi)) | ((with_reducible refine gate_callee (f := 81) rfl ?_); refine goesL_ (some 21) rfl rfl Try.func81 (by kernel_rfl) rfl #[.pointer (some ⟨g151, 0, none⟩), .int .i64 3] rfl (by (try simp only [List.map_toArray, List.map_cons, List.map_nil]); first | done | rfl | (simp only [List.length_drop, List.length_take]; rfl)) ?_; (with_reducible refine (spec_l20Rd_odd.calls k g151 t149 t157 3 false t159 w _ ?side1 ?side2 A8.out).mono ?_); (case side1 => repeat (first | (with_reducible first | exact HI151.out | apply IsS118.alloc | apply IsS118.drewN | apply IsS118.drew | apply IsS118.set_1) | exact HI151.out)); (case side2 => repeat (first | (with_reducible first | exact HB.out | apply below_alloc | apply pw_below_drewN | apply below_drew1 | refine below_set ?_ (IsS118.ge HI151.out)) | exact HB.out)); rintro e w38 ⟨rfl, hi, hb, hk⟩; refine ⟨_, rfl, ?_⟩; have n0_ := Aside0.mk (hb); have n1_ := Aside0.mk (hi); clear HB; clear HI151; have HB := n0_; have HI151 := n1_; clear n0_ n1_; (try clear hb); (try clear hb2); (try clear hk); (try clear hi)))
        go_ret2
        exact ⟨by first | rfl | (simp [errW_none, errW_some] <;> rfl) | (simp [*, errW_none, errW_some] <;> rfl), by repeat (first | (with_reducible first | exact HB.out | apply below_alloc | apply pw_below_drewN | apply below_drew1 | refine below_set ?_ (IsS118.ge HI151.out)) | exact HB.out)⟩
    · rw [if_neg c7] at H
      exact absurd H (by simp)
  · rw [if_neg c5] at H
    exact absurd H (by simp)

end Go.Proofs.Ytihgpkohglcijaa.P
