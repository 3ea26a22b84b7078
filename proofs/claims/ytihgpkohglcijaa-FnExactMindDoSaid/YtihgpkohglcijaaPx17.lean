-- Written by a program of this session (wip/hook.py), which runs the kit's printer; Lean checks it.
import Derived.Test.YtihgpkohglcijaaPx0
import Derived.Test.YtihgpkohglcijaaPx2
import Derived.Test.YtihgpkohglcijaaPx3
import Derived.Test.YtihgpkohglcijaaPx9
import Derived.Test.YtihgpkohglcijaaPx16
namespace Go.Proofs.Ytihgpkohglcijaa.P
open Go.RowKit Go.Proofs.YtihgpkohglcijaaW.PrintWords Go.Proofs.YtihgpkohglcijaaW.PrintLast Go.Proofs.YtihgpkohglcijaaW.PrintMore
attribute [local go_sem] max2_int min2_int max_two min_two max_three min_three max_four min_four   -- for this text's walks alone
set_option linter.unusedVariables false
set_option linter.unusedSimpArgs false

abbrev Mk17_0 : Array Bool := #[false, false, false, false, false, false, false, false, false, false, false]
abbrev Mk17_1 : Array Bool := #[true, false, false, false, false, false, false, false, false, false, false]
abbrev Mk17_2 : Array Bool := #[true, false, true, false, false, false, false, false, false, false, false]
abbrev Mk17_3 : Array Bool := #[true, false, true, false, false, false, false, false, true, false, false]
abbrev Mk17_4 : Array Bool := #[true, true, true, false, false, false, false, false, false, false, false]
abbrev Mk17_5 : Array Bool := #[true, true, true, false, false, false, false, false, true, false, false]
abbrev Mk17_6 : Array Bool := #[true, true, true, false, false, false, false, true, false, false]
abbrev Mk17_7 : Array Bool := #[true, true, true, true, false, false, false, false, false, false, false]
abbrev Mk17_8 : Array Bool := #[true, true, true, true, false, false, false, false, true, false, false]
abbrev Mk17_9 : Array Bool := #[true, true, true, true, false, false, false, true, false, false]
abbrev Mk17_10 : Array Bool := #[true, true, true, true, true, false, false, false, false, false, false]
abbrev Mk17_11 : Array Bool := #[true, true, true, true, true, false, false, false, true, false, false]
abbrev Mk17_12 : Array Bool := #[true, true, true, true, true, false, false, true, false, false]
abbrev Mk17_13 : Array Bool := #[true, true, true, true, true, true, false, false, false, false, false]
abbrev Mk17_14 : Array Bool := #[true, true, true, true, true, true, false, false, true, false, false]
abbrev Mk17_15 : Array Bool := #[true, true, true, true, true, true, false, true, false, false]
abbrev Mk17_16 : Array Bool := #[true, true, true, true, true, true, true, false, false, false, false]
abbrev Mk17_17 : Array Bool := #[true, true, true, true, true, true, true, false, true, false, false]
abbrev Mk17_18 : Array Bool := #[true, true, true, true, true, true, true, true, false, false, false]
abbrev Mk17_19 : Array Bool := #[true, true, true, true, true, true, true, true, false, false]
abbrev Mk17_20 : Array Bool := #[true, true, true, true, true, true, true, true, true, false, false]
abbrev Mk17_21 : Array Bool := #[true, true, true, true, true, true, true, true, true, true, false]
abbrev Mk17_22 : Array Bool := #[true, true, true, true, true, true, true, true, true, true, true]
/-! ### laws_FnExactMindDo: function 15 -/
def laws_FnExactMindDo.f (k : Nat) (a0_0 : Int) (l0_1 : List Int) (l0_2 : List (List Int)) (a1_0 : Int) (a1_1 : ByteArray) : Option (Bool) := (laws_szMind.f k a0_0 l0_1 l0_2 1048576).bind fun t436 => (if t436 < 0 then (some true) else ((laws_szDeed.f a1_0 a1_1 t436).bind fun t437 => (if t437 < 0 then (some true) else ((laws_toMind.f k a0_0 l0_1 l0_2).bind fun bt438 => ((laws_toDeed.f a1_0 a1_1).bind fun bt445 => ((spec_MindDo.f k bt438.1 bt438.2.1 bt438.2.2 bt445.1 bt445.2).bind fun bt447 => ((laws_toMind.f k a0_0 l0_1 l0_2).bind fun bt456 => ((laws_toDeed.f a1_0 a1_1).bind fun bt464 => ((impl_MindDo.f k bt456.1 bt456.2.1 bt456.2.2 bt464.1 bt464.2).bind fun bt466 => ((laws_eqMind.f k bt466.1 bt466.2.1 bt466.2.2.1 bt447.1 bt447.2.1 bt447.2.2.1).bind fun t475 => (if t475 = true then (if (bt466.2.2.2 != bt447.2.2.2) = true then (none) else ((laws_toMind.f k a0_0 l0_1 l0_2).bind fun bt476 => ((laws_eqMind.f k bt456.1 bt456.2.1 bt456.2.2 bt476.1 bt476.2.1 bt476.2.2).bind fun t483 => (if t483 = true then ((laws_markMind.f k bt456.1 bt456.2.1 bt456.2.2 1).bind fun bt484 => (if bt484.1 < 0 then (none) else ((laws_eqMind.f k bt466.1 bt466.2.1 bt466.2.2.1 bt447.1 bt447.2.1 bt447.2.2.1).bind fun t486 => (if t486 = true then ((laws_markMind.f k bt466.1 bt466.2.1 bt466.2.2.1 1).bind fun bt487 => ((laws_heldMind.f k bt466.1 bt487.2.1 bt487.2.2 1).bind fun t489 => (if t489 < 0 then (none) else (if t489 = bt487.1 then ((laws_toMind.f k a0_0 l0_1 l0_2).bind fun bt490 => ((laws_toDeed.f a1_0 a1_1).bind fun bt497 => ((impl_MindDo.f k bt490.1 bt490.2.1 bt490.2.2 bt497.1 bt497.2).bind fun bt499 => ((laws_eqMind.f k bt499.1 bt499.2.1 bt499.2.2.1 bt447.1 bt447.2.1 bt447.2.2.1).bind fun t508 => (if t508 = true then (if (bt499.2.2.2 != bt447.2.2.2) = true then (none) else ((laws_heldMind.f k bt466.1 bt487.2.1 bt487.2.2 1).bind fun t509 => (if t509 < 0 then (none) else (if t509 = bt487.1 then (some true) else (none))))) else (none)))))) else (none))))) else (none))))) else (none))))) else (none))))))))))))
theorem laws_FnExactMindDo.mono : ∀ a0 a1 a2 a3 a4 k, LeO (laws_FnExactMindDo.f k a0 a1 a2 a3 a4) (laws_FnExactMindDo.f (k + 1) a0 a1 a2 a3 a4) := by
 intro a0 a1 a2 a3 a4 k
 unfold laws_FnExactMindDo.f
 repeat' first
   | (with_reducible first | exact impl_MindDo.mono _ _ _ _ _ _ | exact laws_eqMind.mono _ _ _ _ _ _ _ | exact laws_heldMind.mono _ _ _ _ _ | exact laws_markMind.mono _ _ _ _ _ | exact laws_szMind.mono _ _ _ _ _ | exact laws_toMind.mono _ _ _ _ | exact spec_MindDo.mono _ _ _ _ _ _ | exact LeO.refl _ | exact LeO.none _ | refine LeO.ite ?_ ?_ | refine LeO.bind ?_ (fun _ => ?_))
   | refine LeO.ite ?_ ?_
   | refine LeO.bind ?_ (fun _ => ?_)
def laws_FnExactMindDo.T8 : Bool × List (List Nat × List Nat) := (true, [([], []), ([0], [0]), ([], []), ([2, 1], [2]), ([1, 3, 3], [1, 3]), ([4], [4]), ([5], [5]), ([5], [5]), ([], []), ([8, 6, 4, 0, 1, 2, 3, 4, 5, 6, 8], [6, 8]), ([7, 9, 0, 1, 2, 3, 4, 5, 6, 7, 8, 9], [7])])
def laws_FnExactMindDo.B8 : List Nat := [0, 1, 0, 7, 15, 31, 63, 63, 0, 383, 1023]
theorem laws_FnExactMindDo.tab8 : rtab .any (opsOf Try.f15 8) = laws_FnExactMindDo.T8 := by kernel_rfl
theorem laws_FnExactMindDo.bits8 : waitsOk laws_FnExactMindDo.T8.2 laws_FnExactMindDo.B8 = true := by kernel_rfl
def laws_FnExactMindDo.T10 : Bool × List (List Nat × List Nat) := (true, [([], []), ([], []), ([1], [1]), ([0, 2, 2], [0, 2]), ([3], [3]), ([4], [4]), ([4], [4]), ([], []), ([7, 5, 3, 0, 1, 2, 3, 4, 5, 7], [5, 7]), ([6, 8, 0, 1, 2, 3, 4, 5, 6, 7, 8], [6])])
def laws_FnExactMindDo.B10 : List Nat := [0, 0, 2, 7, 15, 31, 31, 0, 191, 511]
theorem laws_FnExactMindDo.tab10 : rtab .any (opsOf Try.f15 10) = laws_FnExactMindDo.T10 := by kernel_rfl
theorem laws_FnExactMindDo.bits10 : waitsOk laws_FnExactMindDo.T10.2 laws_FnExactMindDo.B10 = true := by kernel_rfl
def laws_FnExactMindDo.T27 : Bool × List (List Nat × List Nat) := (true, [([], []), ([0], [0]), ([], []), ([2, 1], [2]), ([1, 3, 3], [1, 3]), ([4], [4]), ([5], [5]), ([5], [5]), ([], []), ([8, 6, 4, 0, 1, 2, 3, 4, 5, 6, 8], [6, 8]), ([7, 9, 0, 1, 2, 3, 4, 5, 6, 7, 8, 9], [7])])
def laws_FnExactMindDo.B27 : List Nat := [0, 1, 0, 7, 15, 31, 63, 63, 0, 383, 1023]
theorem laws_FnExactMindDo.tab27 : rtab .any (opsOf Try.f15 27) = laws_FnExactMindDo.T27 := by kernel_rfl
theorem laws_FnExactMindDo.bits27 : waitsOk laws_FnExactMindDo.T27.2 laws_FnExactMindDo.B27 = true := by kernel_rfl
set_option maxHeartbeats 8000000 in
set_option maxRecDepth 100000 in
theorem laws_FnExactMindDo.calls (k : Nat) (a0_0 : Int) (A0_1 : Option Addr) (c0_1 : Nat) (l0_1 : List Int) (A0_2 : Option Addr) (c0_2 : Nat) (l0_2 : List (List Int)) (a1_0 : Int) (a1_1 : ByteArray) (r : Bool) (w : World) (hr0_1 : Kd.C (Kd.int .i64) w A0_1 l0_1.length l0_1) (hc0_1 : l0_1.length ≤ c0_1) (hr0_2 : Kd.C (Kd.slice 3 (Kd.int .i64)) w A0_2 l0_2.length l0_2) (hc0_2 : l0_2.length ≤ c0_2) (h : laws_FnExactMindDo.f k a0_0 l0_1 l0_2 a1_0 a1_1 = some r) :
  Calls Try.prog 15 #[.agg #[.int .i64 a0_0, .slice A0_1 l0_1.length c0_1, .slice A0_2 l0_2.length c0_2], .agg #[.int .i64 a1_0, .string a1_1]] w fun e w' => e = .returned (.bool r) ∧ Below w.heap.size w w' := by
 have hu67 := Try.underlying67
 have hu23 := Try.underlying23
 have hu58 := Try.underlying58
 have HR0_1 := Asd.mk hr0_1
 have HC0_1 := Asd.mk hc0_1
 clear hr0_1 hc0_1
 have HR0_2 := Asd.mk hr0_2
 have HC0_2 := Asd.mk hc0_2
 clear hr0_2 hc0_2
 have HB := Asd.mk (Below.refl w.heap.size w)
 have H : ((laws_szMind.f k a0_0 l0_1 l0_2 1048576).bind fun t436 => (if t436 < 0 then (some true) else ((laws_szDeed.f a1_0 a1_1 t436).bind fun t437 => (if t437 < 0 then (some true) else ((laws_toMind.f k a0_0 l0_1 l0_2).bind fun bt438 => ((laws_toDeed.f a1_0 a1_1).bind fun bt445 => ((spec_MindDo.f k bt438.1 bt438.2.1 bt438.2.2 bt445.1 bt445.2).bind fun bt447 => ((laws_toMind.f k a0_0 l0_1 l0_2).bind fun bt456 => ((laws_toDeed.f a1_0 a1_1).bind fun bt464 => ((impl_MindDo.f k bt456.1 bt456.2.1 bt456.2.2 bt464.1 bt464.2).bind fun bt466 => ((laws_eqMind.f k bt466.1 bt466.2.1 bt466.2.2.1 bt447.1 bt447.2.1 bt447.2.2.1).bind fun t475 => (if t475 = true then (if (bt466.2.2.2 != bt447.2.2.2) = true then (none) else ((laws_toMind.f k a0_0 l0_1 l0_2).bind fun bt476 => ((laws_eqMind.f k bt456.1 bt456.2.1 bt456.2.2 bt476.1 bt476.2.1 bt476.2.2).bind fun t483 => (if t483 = true then ((laws_markMind.f k bt456.1 bt456.2.1 bt456.2.2 1).bind fun bt484 => (if bt484.1 < 0 then (none) else ((laws_eqMind.f k bt466.1 bt466.2.1 bt466.2.2.1 bt447.1 bt447.2.1 bt447.2.2.1).bind fun t486 => (if t486 = true then ((laws_markMind.f k bt466.1 bt466.2.1 bt466.2.2.1 1).bind fun bt487 => ((laws_heldMind.f k bt466.1 bt487.2.1 bt487.2.2 1).bind fun t489 => (if t489 < 0 then (none) else (if t489 = bt487.1 then ((laws_toMind.f k a0_0 l0_1 l0_2).bind fun bt490 => ((laws_toDeed.f a1_0 a1_1).bind fun bt497 => ((impl_MindDo.f k bt490.1 bt490.2.1 bt490.2.2 bt497.1 bt497.2).bind fun bt499 => ((laws_eqMind.f k bt499.1 bt499.2.1 bt499.2.2.1 bt447.1 bt447.2.1 bt447.2.2.1).bind fun t508 => (if t508 = true then (if (bt499.2.2.2 != bt447.2.2.2) = true then (none) else ((laws_heldMind.f k bt466.1 bt487.2.1 bt487.2.2 1).bind fun t509 => (if t509 < 0 then (none) else (if t509 = bt487.1 then (some true) else (none))))) else (none)))))) else (none))))) else (none))))) else (none))))) else (none))))))))))))) = some r := h
 clear h
 replace H := Option.bind_eq_some_iff.mp H
 obtain ⟨t436, A30, H⟩ := H
 try dsimp only at H
 have A3 := Asd.mk A30
 clear A30
 by_cases c4 : t436 < 0
 ·rw [if_pos c4] at H
  have c4b0 : decide (t436 < 0) = true := decide_eq_true c4
  clear c4
  obtain rfl := Option.some.inj H
  go_enter Try.func15, Try.ntmps15
  go_wp2_with (first | ((with_reducible refine gate_dst (N := 2) rfl ?_); refine bxE ?hg (N := 2) ?hd (cs := #[.int .i64 a0_0, .slice A0_1 l0_1.length c0_1, .slice A0_2 l0_2.length c0_2]) (t := 67) ?hr ?_; (case hd => rfl); (case hg => rfl); (case hr => first | (go_simp; done) | (go_simp; rfl)); intro gb434 hg w5 hbox hb; have BK434 := Asd.mk (hbox); have GW434 := bG HB hg; have GE434 := bG HB hg; replace HB := bW HB hb; clear hb hbox hg) | ((with_reducible refine gate_dst (N := 3) rfl ?_); refine bxE ?hg (N := 3) ?hd (cs := #[.int .i64 a1_0, .string a1_1]) (t := 23) ?hr ?_; (case hd => rfl); (case hg => rfl); (case hr => first | (go_simp; done) | (go_simp; rfl)); intro gb435 hg w6 hbox hb; have BK435 := Asd.mk (hbox); have GW435 := bG HB hg; have GE435 := bG HB hg; replace HB := bW HB hb; have NB434_435 := bL BK434 hg; have NB435_434 := bM BK434 hg; replace BK434 := bU BK434 hb; clear hb hbox hg; have hnb7 := NB434_435.out; have hnc7 := NB435_434.out; obtain ⟨hcz8_0, hcz8_1, hcz8_2, hfz8_0, hfz8_1, hfz8_2⟩ := b3 BK434) | ((with_reducible refine gate_callee (f := 51) rfl ?_); refine gsM (some 18) rfl rfl Try.func51 (by kernel_rfl) rfl #[.agg #[.int .i64 a0_0, .slice A0_1 l0_1.length c0_1, .slice A0_2 l0_2.length c0_2], .int .i64 1048576] rfl ?_; (with_reducible refine (laws_szMind.calls k a0_0 _ _ l0_1 _ _ l0_2 1048576 t436 _ ?side1 ?side2 ?side3 ?side4 A3.out).mono ?_); (case side1 => exact cZ (Kd.C_below HR0_1.out HB.out)); (case side2 => exact HC0_1.out); (case side3 => exact cZ (Kd.C_below HR0_2.out HB.out)); (case side4 => exact HC0_2.out); rintro e w9 ⟨rfl, hb⟩; refine ⟨_, rfl, ?_⟩; replace BK434 := bU BK434 hb; replace BK435 := bU BK435 hb; replace HB := bW HB hb; (try clear hb); (try clear hb2); (try clear hk); (try clear hi)))
  go_ret
  exact ⟨by first | rfl | (simp [*, errW_none, errW_some] <;> rfl), wZ HB⟩
 ·rw [if_neg c4] at H
  have c4b0 : decide (t436 < 0) = false := decide_eq_false c4
  clear c4
  replace H := Option.bind_eq_some_iff.mp H
  obtain ⟨t437, A100, H⟩ := H
  try dsimp only at H
  have A10 := Asd.mk A100
  clear A100
  by_cases c11 : t437 < 0
  ·rw [if_pos c11] at H
   have c11b0 : decide (t437 < 0) = true := decide_eq_true c11
   clear c11
   obtain rfl := Option.some.inj H
   go_enter Try.func15, Try.ntmps15
   go_wp2_with (first | ((with_reducible refine gate_dst (N := 2) rfl ?_); refine bxE ?hg (N := 2) ?hd (cs := #[.int .i64 a0_0, .slice A0_1 l0_1.length c0_1, .slice A0_2 l0_2.length c0_2]) (t := 67) ?hr ?_; (case hd => rfl); (case hg => rfl); (case hr => first | (go_simp; done) | (go_simp; rfl)); intro gb434 hg w12 hbox hb; have BK434 := Asd.mk (hbox); have GW434 := bG HB hg; have GE434 := bG HB hg; replace HB := bW HB hb; clear hb hbox hg) | ((with_reducible refine gate_dst (N := 3) rfl ?_); refine bxE ?hg (N := 3) ?hd (cs := #[.int .i64 a1_0, .string a1_1]) (t := 23) ?hr ?_; (case hd => rfl); (case hg => rfl); (case hr => first | (go_simp; done) | (go_simp; rfl)); intro gb435 hg w13 hbox hb; have BK435 := Asd.mk (hbox); have GW435 := bG HB hg; have GE435 := bG HB hg; replace HB := bW HB hb; have NB434_435 := bL BK434 hg; have NB435_434 := bM BK434 hg; replace BK434 := bU BK434 hb; clear hb hbox hg; have hnb14 := NB434_435.out; have hnc14 := NB435_434.out; obtain ⟨hcz15_0, hcz15_1, hcz15_2, hfz15_0, hfz15_1, hfz15_2⟩ := b3 BK434) | ((with_reducible refine gate_callee (f := 51) rfl ?_); refine gsM (some 18) rfl rfl Try.func51 (by kernel_rfl) rfl #[.agg #[.int .i64 a0_0, .slice A0_1 l0_1.length c0_1, .slice A0_2 l0_2.length c0_2], .int .i64 1048576] rfl ?_; (with_reducible refine (laws_szMind.calls k a0_0 _ _ l0_1 _ _ l0_2 1048576 t436 _ ?side1 ?side2 ?side3 ?side4 A3.out).mono ?_); (case side1 => exact cZ (Kd.C_below HR0_1.out HB.out)); (case side2 => exact HC0_1.out); (case side3 => exact cZ (Kd.C_below HR0_2.out HB.out)); (case side4 => exact HC0_2.out); rintro e w16 ⟨rfl, hb⟩; refine ⟨_, rfl, ?_⟩; replace BK434 := bU BK434 hb; replace BK435 := bU BK435 hb; replace HB := bW HB hb; (try clear hb); (try clear hb2); (try clear hk); (try clear hi); obtain ⟨hcz17_0, hcz17_1, hfz17_0, hfz17_1⟩ := b2 BK435) | ((with_reducible refine gate_callee (f := 19) rfl ?_); refine gsM (some 23) rfl rfl Try.func19 (by kernel_rfl) rfl #[.agg #[.int .i64 a1_0, .string a1_1], .int .i64 t436] rfl ?_; (with_reducible refine (laws_szDeed.calls a1_0 a1_1 t436 t437 _ A10.out).mono ?_); rintro e w18 ⟨rfl, hb⟩; refine ⟨_, rfl, ?_⟩; replace BK434 := bU BK434 hb; replace BK435 := bU BK435 hb; replace HB := bW HB hb; (try clear hb); (try clear hb2); (try clear hk); (try clear hi)))
   go_ret
   exact ⟨by first | rfl | (simp [*, errW_none, errW_some] <;> rfl), wZ HB⟩
  ·rw [if_neg c11] at H
   have c11b0 : decide (t437 < 0) = false := decide_eq_false c11
   clear c11
   replace H := Option.bind_eq_some_iff.mp H
   obtain ⟨⟨t438, t439, t442⟩, A190, H⟩ := H
   try dsimp only at H
   have A19 := Asd.mk A190
   clear A190
   replace H := Option.bind_eq_some_iff.mp H
   obtain ⟨⟨t445, t446⟩, A200, H⟩ := H
   try dsimp only at H
   have A20 := Asd.mk A200
   clear A200
   replace H := Option.bind_eq_some_iff.mp H
   obtain ⟨⟨t447, t448, t451, t454⟩, A210, H⟩ := H
   try dsimp only at H
   have A21 := Asd.mk A210
   clear A210
   replace H := Option.bind_eq_some_iff.mp H
   obtain ⟨⟨t456, t457, t460⟩, A220, H⟩ := H
   try dsimp only at H
   have A22 := Asd.mk A220
   clear A220
   replace H := Option.bind_eq_some_iff.mp H
   obtain ⟨⟨t464, t465⟩, A230, H⟩ := H
   try dsimp only at H
   have A23 := Asd.mk A230
   clear A230
   replace H := Option.bind_eq_some_iff.mp H
   obtain ⟨⟨t466, t467, t470, t473⟩, A240, H⟩ := H
   try dsimp only at H
   have A24 := Asd.mk A240
   clear A240
   replace H := Option.bind_eq_some_iff.mp H
   obtain ⟨t475, A250, H⟩ := H
   try dsimp only at H
   have A25 := Asd.mk A250
   clear A250
   by_cases c26 : t475 = true
   ·subst c26
    rw [if_pos rfl] at H
    by_cases c27 : (t473 != t454) = true
    ·rw [if_pos c27] at H
     exact absurd H (by simp)
    ·rw [if_neg c27] at H
     have c27b0 : (t473 != t454) = false := by simpa using c27
     (try (have c27b1 : decide (t473 = t454) = true := by simpa using c27))
     (try (have c27b2 : (t473 == t454) = true := by simpa using c27))
     clear c27
     replace H := Option.bind_eq_some_iff.mp H
     obtain ⟨⟨t476, t477, t480⟩, A280, H⟩ := H
     try dsimp only at H
     have A28 := Asd.mk A280
     clear A280
     replace H := Option.bind_eq_some_iff.mp H
     obtain ⟨t483, A290, H⟩ := H
     try dsimp only at H
     have A29 := Asd.mk A290
     clear A290
     by_cases c30 : t483 = true
     ·subst c30
      rw [if_pos rfl] at H
      replace H := Option.bind_eq_some_iff.mp H
      obtain ⟨⟨t484, t485, t485p⟩, A310, H⟩ := H
      try dsimp only at H
      have A31 := Asd.mk A310
      clear A310
      by_cases c32 : t484 < 0
      ·rw [if_pos c32] at H
       exact absurd H (by simp)
      ·rw [if_neg c32] at H
       have c32b0 : decide (t484 < 0) = false := decide_eq_false c32
       clear c32
       replace H := Option.bind_eq_some_iff.mp H
       obtain ⟨t486, A330, H⟩ := H
       try dsimp only at H
       have A33 := Asd.mk A330
       clear A330
       by_cases c34 : t486 = true
       ·subst c34
        rw [if_pos rfl] at H
        replace H := Option.bind_eq_some_iff.mp H
        obtain ⟨⟨t487, t488, t488p⟩, A350, H⟩ := H
        try dsimp only at H
        have A35 := Asd.mk A350
        clear A350
        replace H := Option.bind_eq_some_iff.mp H
        obtain ⟨t489, A360, H⟩ := H
        try dsimp only at H
        have A36 := Asd.mk A360
        clear A360
        by_cases c37 : t489 < 0
        ·rw [if_pos c37] at H
         exact absurd H (by simp)
        ·rw [if_neg c37] at H
         have c37b0 : decide (t489 < 0) = false := decide_eq_false c37
         clear c37
         by_cases c38 : t489 = t487; rotate_left; (rw [if_neg c38] at H; exact absurd H (by simp))
         rw [if_pos c38] at H
         have c38b0 : (t489 == t487) = true := beq_iff_eq.mpr c38
         have c38b1 : (t489 != t487) = false := bne_eq_false_iff_eq.mpr c38
         clear c38
         replace H := Option.bind_eq_some_iff.mp H
         obtain ⟨⟨t490, t491, t494⟩, A390, H⟩ := H
         try dsimp only at H
         have A39 := Asd.mk A390
         clear A390
         replace H := Option.bind_eq_some_iff.mp H
         obtain ⟨⟨t497, t498⟩, A400, H⟩ := H
         try dsimp only at H
         have A40 := Asd.mk A400
         clear A400
         replace H := Option.bind_eq_some_iff.mp H
         obtain ⟨⟨t499, t500, t503, t506⟩, A410, H⟩ := H
         try dsimp only at H
         have A41 := Asd.mk A410
         clear A410
         replace H := Option.bind_eq_some_iff.mp H
         obtain ⟨t508, A420, H⟩ := H
         try dsimp only at H
         have A42 := Asd.mk A420
         clear A420
         by_cases c43 : t508 = true
         ·subst c43
          rw [if_pos rfl] at H
          by_cases c44 : (t506 != t454) = true
          ·rw [if_pos c44] at H
           exact absurd H (by simp)
          ·rw [if_neg c44] at H
           have c44b0 : (t506 != t454) = false := by simpa using c44
           (try (have c44b1 : decide (t506 = t454) = true := by simpa using c44))
           (try (have c44b2 : (t506 == t454) = true := by simpa using c44))
           clear c44
           replace H := Option.bind_eq_some_iff.mp H
           obtain ⟨t509, A450, H⟩ := H
           try dsimp only at H
           have A45 := Asd.mk A450
           clear A450
           by_cases c46 : t509 < 0
           ·rw [if_pos c46] at H
            exact absurd H (by simp)
           ·rw [if_neg c46] at H
            have c46b0 : decide (t509 < 0) = false := decide_eq_false c46
            clear c46
            by_cases c47 : t509 = t487; rotate_left; (rw [if_neg c47] at H; exact absurd H (by simp))
            rw [if_pos c47] at H
            have c47b0 : (t509 == t487) = true := beq_iff_eq.mpr c47
            have c47b1 : (t509 != t487) = false := bne_eq_false_iff_eq.mpr c47
            clear c47
            obtain rfl := Option.some.inj H
            go_enter Try.func15, Try.ntmps15
            try go_wp2_with (first | ((with_reducible refine gate_dst (N := 2) rfl ?_); refine bxE ?hg (N := 2) ?hd (cs := #[.int .i64 a0_0, .slice A0_1 l0_1.length c0_1, .slice A0_2 l0_2.length c0_2]) (t := 67) ?hr ?_; (case hd => rfl); (case hg => rfl); (case hr => first | (go_simp; done) | (go_simp; rfl)); intro gb434 hg w48 hbox hb; have BK434 := Asd.mk (hbox); have GW434 := bG HB hg; have GE434 := bG HB hg; replace HB := bW HB hb; clear hb hbox hg) | ((with_reducible refine gate_dst (N := 3) rfl ?_); refine bxE ?hg (N := 3) ?hd (cs := #[.int .i64 a1_0, .string a1_1]) (t := 23) ?hr ?_; (case hd => rfl); (case hg => rfl); (case hr => first | (go_simp; done) | (go_simp; rfl)); intro gb435 hg w49 hbox hb; have BK435 := Asd.mk (hbox); have GW435 := bG HB hg; have GE435 := bG HB hg; replace HB := bW HB hb; have NB434_435 := bL BK434 hg; have NB435_434 := bM BK434 hg; replace BK434 := bU BK434 hb; clear hb hbox hg; have hnb50 := NB434_435.out; have hnc50 := NB435_434.out; obtain ⟨hcz51_0, hcz51_1, hcz51_2, hfz51_0, hfz51_1, hfz51_2⟩ := b3 BK434) | ((with_reducible refine gate_callee (f := 51) rfl ?_); refine gsM (some 18) rfl rfl Try.func51 (by kernel_rfl) rfl #[.agg #[.int .i64 a0_0, .slice A0_1 l0_1.length c0_1, .slice A0_2 l0_2.length c0_2], .int .i64 1048576] rfl ?_; (with_reducible refine (laws_szMind.calls k a0_0 _ _ l0_1 _ _ l0_2 1048576 t436 _ ?side1 ?side2 ?side3 ?side4 A3.out).mono ?_); (case side1 => exact cZ (Kd.C_below HR0_1.out HB.out)); (case side2 => exact HC0_1.out); (case side3 => exact cZ (Kd.C_below HR0_2.out HB.out)); (case side4 => exact HC0_2.out); rintro e w52 ⟨rfl, hb⟩; refine ⟨_, rfl, ?_⟩; replace BK434 := bU BK434 hb; replace BK435 := bU BK435 hb; replace HB := bW HB hb; (try clear hb); (try clear hb2); (try clear hk); (try clear hi); obtain ⟨hcz53_0, hcz53_1, hfz53_0, hfz53_1⟩ := b2 BK435) | ((with_reducible refine gate_callee (f := 19) rfl ?_); refine gsM (some 23) rfl rfl Try.func19 (by kernel_rfl) rfl #[.agg #[.int .i64 a1_0, .string a1_1], .int .i64 t436] rfl ?_; (with_reducible refine (laws_szDeed.calls a1_0 a1_1 t436 t437 _ A10.out).mono ?_); rintro e w54 ⟨rfl, hb⟩; refine ⟨_, rfl, ?_⟩; replace BK434 := bU BK434 hb; replace BK435 := bU BK435 hb; replace HB := bW HB hb; (try clear hb); (try clear hb2); (try clear hk); (try clear hi)))
            replace BK434 := Asd.mk (bkD BK434.out)
            replace BK435 := Asd.mk (bkD BK435.out)
            replace HB := Asd.mk (bwD HB.out)
            refine start_ (n := 11) (S := fun w' => w'.cell? ⟨gb434, 0, none⟩ = some (.int .i64 a0_0) ∧ w'.cell? ⟨gb434, 1, none⟩ = some (.slice A0_1 l0_1.length c0_1) ∧ w'.cell? ⟨gb434, 2, none⟩ = some (.slice A0_2 l0_2.length c0_2) ∧ w'.cell? ⟨gb435, 0, none⟩ = some (.int .i64 a1_0) ∧ w'.cell? ⟨gb435, 1, none⟩ = some (.string a1_1)) (ds := []) Mk17_0 (by kernel_rfl) rfl rfl ⟨(bkC BK434.out 0).trans rfl, (bkC BK434.out 1).trans rfl, (bkC BK434.out 2).trans rfl, (bkC BK435.out 0).trans rfl, (bkC BK435.out 1).trans rfl⟩ (fun hHeld => ?_); refine with_tabW laws_FnExactMindDo.tab8 laws_FnExactMindDo.bits8 (fun HT_ HW_ => ?_)
            generalize w54.drew = w55 at BK434 BK435 HB hHeld ⊢
            refine take_ (i := 0) (N := some 27) (v := ?_) (a' := ?_) Mk17_1 rfl rfl (take_ofW HT_.out HW_.out (by kernel_rfl)) (fun _ _ _ h => h) (Or.inl ⟨by rfl, ?_⟩) hHeld ?_ ?_
            rotate_left
            ·rintro w' ⟨s0, s1, s2, s3, s4⟩
             go_simp
             with_reducible rfl
            rotate_left
            ·simp only [Act.put, qA, qB, qC, i64_w, i32_w]
             rfl
            refine take_ (i := 2) (N := some 29) (v := ?_) (a' := ?_) Mk17_2 rfl rfl (take_ofW HT_.out HW_.out (by kernel_rfl)) (fun _ _ _ h => h) (Or.inl ⟨by rfl, ?_⟩) hHeld ?_ ?_
            rotate_left
            ·rintro w' ⟨s0, s1, s2, s3, s4⟩
             go_simp
             with_reducible rfl
            rotate_left
            ·simp only [Act.put, qA, qB, qC, i64_w, i32_w]
             rfl
            refine join_ (σ := Value × Value × Value × Value × Nat) 2 Mk17_20 (fun s_ => [(28, .agg #[.int .i64 t438, s_.1, s_.2.1]), (30, .agg #[.int .i64 t445, .string t446]), (31, .tuple #[.agg #[.int .i64 t447, s_.2.2.1, s_.2.2.2.1], .bool t454]), (6, .pointer (some ⟨s_.2.2.2.2, 0, none⟩)), (26, .tuple #[.agg #[.int .i64 t447, s_.2.2.1, s_.2.2.2.1], .bool t454]), (32, .agg #[.int .i64 t447, s_.2.2.1, s_.2.2.2.1]), (33, .bool t454)]) (fun s_ w' => (w'.cell? ⟨gb434, 0, none⟩ = some (.int .i64 a0_0) ∧ w'.cell? ⟨gb434, 1, none⟩ = some (.slice A0_1 l0_1.length c0_1) ∧ w'.cell? ⟨gb434, 2, none⟩ = some (.slice A0_2 l0_2.length c0_2) ∧ w'.cell? ⟨gb435, 0, none⟩ = some (.int .i64 a1_0) ∧ w'.cell? ⟨gb435, 1, none⟩ = some (.string a1_1)) ∧ (Kd.R (Kd.int .i64) 3 w' w.heap.size (fun _ => True) s_.2.2.1 t448) ∧ (Kd.Q (Kd.slice 3 (Kd.int .i64)) 55 w' w.heap.size (fun _ => True) s_.2.2.2.1 t451) ∧ (w'.heap[gb434]? = some (.cells #[.int .i64 a0_0, .slice A0_1 l0_1.length c0_1, .slice A0_2 l0_2.length c0_2] 67 (0, 0))) ∧ (w'.heap[gb435]? = some (.cells #[.int .i64 a1_0, .string a1_1] 23 (0, 0))) ∧ (w'.heap[s_.2.2.2.2]? = some (.cells #[.int .i64 0, .slice none 0 0, .slice none 0 0] 58 (0, 0))) ∧ (w.heap.size ≤ s_.2.2.2.2) ∧ (w.heap.size ≤ s_.2.2.2.2) ∧ (gb434 ≠ s_.2.2.2.2) ∧ (s_.2.2.2.2 ≠ gb434) ∧ (gb435 ≠ s_.2.2.2.2) ∧ (s_.2.2.2.2 ≠ gb435) ∧ (Below w.heap.size w w')) ?_ ?_
            rotate_left
            ·intro hCont
             refine two_ (i := 1) (j := 8) (Ni := some 28) (Nj := some 6) Mk17_4 Mk17_3 rfl rfl rfl rfl (two_of HT_.out (by kernel_rfl)) (by decide) (by decide) (fun K hK => ?_) (fun K hK => ?_)
             ·skip
              refine goes_ Try.func53 (by kernel_rfl) rfl #[.agg #[.int .i64 a0_0, .slice A0_1 l0_1.length c0_1, .slice A0_2 l0_2.length c0_2]] (by rfl) rfl rfl (by (try simp only [List.map_toArray, List.map_cons, List.map_nil]); first | done | rfl | (simp only [List.length_drop, List.length_take]; rfl)) ?_
              with_reducible refine (laws_toMind.calls k a0_0 _ _ l0_1 _ _ l0_2 t438 t439 t442 _ ?side1 ?side2 ?side3 ?side4 A19.out).mono ?_
              (case side1 => exact cZ (Kd.C_below HR0_1.out HB.out))
              (case side2 => exact HC0_1.out)
              (case side3 => exact cZ (Kd.C_below HR0_2.out HB.out))
              (case side4 => exact HC0_2.out)
              rintro e w56 ⟨v440, v443, rfl, ho0, ho1, hb⟩
              refine ⟨_, rfl, ?_⟩
              have HO441 := Asd.mk (Kd.R_mono (Kd.R_lower ho0 (below_size (wZ HB))) (fun _ _ => trivial))
              have HO444 := Asd.mk (Kd.S_mono (Kd.S_lower ho1 (below_size (wZ HB))) (fun _ _ => trivial))
              replace BK434 := bU BK434 hb
              replace BK435 := bU BK435 hb
              replace HB := bW HB hb
              (try clear hb)
              (try clear hb2)
              (try clear hk)
              (try clear hi)
              (try clear ho0)
              (try clear ho1)
              refine hK.out _ _ ⟨(bkC BK434.out 0).trans rfl, (bkC BK434.out 1).trans rfl, (bkC BK434.out 2).trans rfl, (bkC BK435.out 0).trans rfl, (bkC BK435.out 1).trans rfl⟩ (fun hHeld => ?_)
              clear hK K
              refine norm_ (a' := ?_) ?_ ?_
              rotate_left
              ·show Act.put _ (some 28) _ = _
               simp only [Act.put, qA, qB, qC, i64_w, i32_w]
               rfl
              refine two_ (i := 3) (j := 8) (Ni := some 30) (Nj := some 6) Mk17_7 Mk17_5 rfl rfl rfl rfl (two_of HT_.out (by kernel_rfl)) (by decide) (by decide) (fun K hK => ?_) (fun K hK => ?_)
              ·skip
               refine goes_ Try.func21 (by kernel_rfl) rfl #[.agg #[.int .i64 a1_0, .string a1_1]] (by rfl) rfl rfl (by (try simp only [List.map_toArray, List.map_cons, List.map_nil]); first | done | rfl | (simp only [List.length_drop, List.length_take]; rfl)) ?_
               with_reducible refine (laws_toDeed.calls a1_0 a1_1 t445 t446 _ A20.out).mono ?_
               rintro e w57 ⟨rfl, hb⟩
               refine ⟨_, rfl, ?_⟩
               replace HO441 := bR HO441 hb
               replace HO444 := bS HO444 hb
               replace BK434 := bU BK434 hb
               replace BK435 := bU BK435 hb
               replace HB := bW HB hb
               (try clear hb)
               (try clear hb2)
               (try clear hk)
               (try clear hi)
               obtain ⟨Ao58, co58, eo58⟩ := Kd.R_slice HO441.out
               (first | subst eo58 | (injection eo58 with f1_ f2_ f3_; have f4_ := f1_.symm; have f5_ := f3_.symm; clear f1_ f2_ f3_; subst f4_; subst f5_))
               obtain ⟨Ao59, co59, eo59⟩ := Kd.S_slice HO444.out
               (first | subst eo59 | (injection eo59 with f1_ f2_ f3_; have f4_ := f1_.symm; have f5_ := f3_.symm; clear f1_ f2_ f3_; subst f4_; subst f5_))
               refine hK.out _ _ ⟨(bkC BK434.out 0).trans rfl, (bkC BK434.out 1).trans rfl, (bkC BK434.out 2).trans rfl, (bkC BK435.out 0).trans rfl, (bkC BK435.out 1).trans rfl⟩ (fun hHeld => ?_)
               clear hK K
               refine norm_ (a' := ?_) ?_ ?_
               rotate_left
               ·show Act.put _ (some 30) _ = _
                simp only [Act.put, qA, qB, qC, i64_w, i32_w]
                rfl
               refine two_ (i := 4) (j := 8) (Ni := some 31) (Nj := some 6) Mk17_10 Mk17_8 rfl rfl rfl rfl (two_of HT_.out (by kernel_rfl)) (by decide) (by decide) (fun K hK => ?_) (fun K hK => ?_)
               ·skip
                refine goes_ Try.func63 (by kernel_rfl) rfl #[.agg #[.int .i64 t438, .slice Ao58 t439.length co58, .slice Ao59 t442.length co59], .agg #[.int .i64 t445, .string t446]] (by rfl) rfl rfl (by (try simp only [List.map_toArray, List.map_cons, List.map_nil]); first | done | rfl | (simp only [List.length_drop, List.length_take]; rfl)) ?_
                with_reducible refine (spec_MindDo.calls k t438 _ _ t439 _ _ t442 t445 t446 t447 t448 t451 t454 _ ?side1 ?side2 ?side3 ?side4 A21.out).mono ?_
                (case side1 => exact cZ (Kd.R_reads' HO441.out).2.2)
                (case side2 => exact (Kd.R_reads' HO441.out).2.1)
                (case side3 => exact cZ (Kd.S_reads' HO444.out).2.2)
                (case side4 => exact (Kd.S_reads' HO444.out).2.1)
                rintro e w60 ⟨v449, v452, rfl, ho0, ho1, hb⟩
                refine ⟨_, rfl, ?_⟩
                have HO450 := Asd.mk (Kd.R_mono (Kd.R_lower ho0 (below_size (wZ HB))) (fun _ _ => trivial))
                have HO453 := Asd.mk (Kd.Q_mono (Kd.Q_lower ho1 (below_size (wZ HB))) (fun _ _ => trivial))
                replace HO441 := bR HO441 hb
                replace HO444 := bS HO444 hb
                replace BK434 := bU BK434 hb
                replace BK435 := bU BK435 hb
                replace HB := bW HB hb
                (try clear hb)
                (try clear hb2)
                (try clear hk)
                (try clear hi)
                (try clear ho0)
                (try clear ho1)
                refine hK.out _ _ ⟨(bkC BK434.out 0).trans rfl, (bkC BK434.out 1).trans rfl, (bkC BK434.out 2).trans rfl, (bkC BK435.out 0).trans rfl, (bkC BK435.out 1).trans rfl⟩ (fun hHeld => ?_)
                clear hK K
                refine norm_ (a' := ?_) ?_ ?_
                rotate_left
                ·show Act.put _ (some 31) _ = _
                 simp only [Act.put, qA, qB, qC, i64_w, i32_w]
                 rfl
                refine pure_ (i := 5) (N := some 26) (v := ?_) (a' := ?_) Mk17_13 rfl rfl (any_of HT_.out (by kernel_rfl)) (fun _ _ _ h => h) (Or.inl ⟨by rfl, ?_⟩) ?_ ?_
                rotate_left
                ·intro w'
                 go_simp
                 with_reducible rfl
                rotate_left
                ·simp only [Act.put, qA, qB, qC, i64_w, i32_w]
                 rfl
                refine pure_ (i := 6) (N := some 32) (v := ?_) (a' := ?_) Mk17_16 rfl rfl (any_of HT_.out (by kernel_rfl)) (fun _ _ _ h => h) (Or.inl ⟨by rfl, ?_⟩) ?_ ?_
                rotate_left
                ·intro w'
                 go_simp
                 with_reducible rfl
                rotate_left
                ·simp only [Act.put, qA, qB, qC, i64_w, i32_w]
                 rfl
                refine pure_ (i := 7) (N := some 33) (v := ?_) (a' := ?_) Mk17_18 rfl rfl (any_of HT_.out (by kernel_rfl)) (fun _ _ _ h => h) (Or.inl ⟨by rfl, ?_⟩) ?_ ?_
                rotate_left
                ·intro w'
                 go_simp
                 with_reducible rfl
                rotate_left
                ·simp only [Act.put, qA, qB, qC, i64_w, i32_w]
                 rfl
                refine one_ (i := 8) (N := some 6) Mk17_20 rfl rfl (one_of HT_.out (by kernel_rfl)) (by decide) (fun K hK => ?_)
                refine box_step ?hg (N := 6) ?hd (cs := #[.int .i64 0, .slice none 0 0, .slice none 0 0]) (t := 58) ?hr ?_; (case hd => rfl); (case hg => rfl); (case hr => first | (go_simp; done) | (go_simp; rfl))
                intro gb455 hg w61 hbox hb
                replace HO441 := bR HO441 hb
                replace HO444 := bS HO444 hb
                replace HO450 := bR HO450 hb
                replace HO453 := bQ HO453 hb
                have BK455 := Asd.mk (hbox)
                have GW455 := bG HB hg
                have GE455 := bG HB hg
                replace HB := bW HB hb
                have NB434_455 := bL BK434 hg
                have NB455_434 := bM BK434 hg
                replace BK434 := bU BK434 hb
                have NB435_455 := bL BK435 hg
                have NB455_435 := bM BK435 hg
                replace BK435 := bU BK435 hb
                clear hb hbox hg
                refine hK.out _ _ ⟨(bkC BK434.out 0).trans rfl, (bkC BK434.out 1).trans rfl, (bkC BK434.out 2).trans rfl, (bkC BK435.out 0).trans rfl, (bkC BK435.out 1).trans rfl⟩ (fun hHeld => ?_)
                clear hK K
                refine norm_ (a' := ?_) ?_ ?_
                rotate_left
                ·show Act.put _ (some 6) _ = _
                 simp only [Act.put, qA, qB, qC, i64_w, i32_w]
                 rfl
                exact norm_ (by simp only [putAll, Act.put, qA, qB, qC]) (hCont (.slice Ao58 t439.length co58, .slice Ao59 t442.length co59, v449, v452, gb455) _ ⟨hHeld, (rS HO450), (qS HO453), (kS BK434), (kS BK435), (kS BK455), GW455.out, GE455.out, NB434_455.out, NB455_434.out, NB435_455.out, NB455_435.out, (wZ HB)⟩)
               ·skip
                refine box_step ?hg (N := 6) ?hd (cs := #[.int .i64 0, .slice none 0 0, .slice none 0 0]) (t := 58) ?hr ?_; (case hd => rfl); (case hg => rfl); (case hr => first | (go_simp; done) | (go_simp; rfl))
                intro gb455 hg w58 hbox hb
                replace HO441 := bR HO441 hb
                replace HO444 := bS HO444 hb
                have BK455 := Asd.mk (hbox)
                have GW455 := bG HB hg
                have GE455 := bG HB hg
                replace HB := bW HB hb
                have NB434_455 := bL BK434 hg
                have NB455_434 := bM BK434 hg
                replace BK434 := bU BK434 hb
                have NB435_455 := bL BK435 hg
                have NB455_435 := bM BK435 hg
                replace BK435 := bU BK435 hb
                clear hb hbox hg
                obtain ⟨Ao59, co59, eo59⟩ := Kd.R_slice HO441.out
                (first | subst eo59 | (injection eo59 with f1_ f2_ f3_; have f4_ := f1_.symm; have f5_ := f3_.symm; clear f1_ f2_ f3_; subst f4_; subst f5_))
                obtain ⟨Ao60, co60, eo60⟩ := Kd.S_slice HO444.out
                (first | subst eo60 | (injection eo60 with f1_ f2_ f3_; have f4_ := f1_.symm; have f5_ := f3_.symm; clear f1_ f2_ f3_; subst f4_; subst f5_))
                refine hK.out _ _ ⟨(bkC BK434.out 0).trans rfl, (bkC BK434.out 1).trans rfl, (bkC BK434.out 2).trans rfl, (bkC BK435.out 0).trans rfl, (bkC BK435.out 1).trans rfl⟩ (fun hHeld => ?_)
                clear hK K
                refine norm_ (a' := ?_) ?_ ?_
                rotate_left
                ·show Act.put _ (some 6) _ = _
                 simp only [Act.put, qA, qB, qC, i64_w, i32_w]
                 rfl
                refine one_ (i := 4) (N := some 31) Mk17_11 rfl rfl (one_of HT_.out (by kernel_rfl)) (by decide) (fun K hK => ?_)
                refine goes_ Try.func63 (by kernel_rfl) rfl #[.agg #[.int .i64 t438, .slice Ao59 t439.length co59, .slice Ao60 t442.length co60], .agg #[.int .i64 t445, .string t446]] (by rfl) rfl rfl (by (try simp only [List.map_toArray, List.map_cons, List.map_nil]); first | done | rfl | (simp only [List.length_drop, List.length_take]; rfl)) ?_
                with_reducible refine (spec_MindDo.calls k t438 _ _ t439 _ _ t442 t445 t446 t447 t448 t451 t454 _ ?side1 ?side2 ?side3 ?side4 A21.out).mono ?_
                (case side1 => exact cZ (Kd.R_reads' HO441.out).2.2)
                (case side2 => exact (Kd.R_reads' HO441.out).2.1)
                (case side3 => exact cZ (Kd.S_reads' HO444.out).2.2)
                (case side4 => exact (Kd.S_reads' HO444.out).2.1)
                rintro e w61 ⟨v449, v452, rfl, ho0, ho1, hb⟩
                refine ⟨_, rfl, ?_⟩
                have HO450 := Asd.mk (Kd.R_mono (Kd.R_lower ho0 (below_size (wZ HB))) (fun _ _ => trivial))
                have HO453 := Asd.mk (Kd.Q_mono (Kd.Q_lower ho1 (below_size (wZ HB))) (fun _ _ => trivial))
                replace HO441 := bR HO441 hb
                replace HO444 := bS HO444 hb
                replace BK434 := bU BK434 hb
                replace BK435 := bU BK435 hb
                replace BK455 := bU BK455 hb
                replace HB := bW HB hb
                (try clear hb)
                (try clear hb2)
                (try clear hk)
                (try clear hi)
                (try clear ho0)
                (try clear ho1)
                refine hK.out _ _ ⟨(bkC BK434.out 0).trans rfl, (bkC BK434.out 1).trans rfl, (bkC BK434.out 2).trans rfl, (bkC BK435.out 0).trans rfl, (bkC BK435.out 1).trans rfl⟩ (fun hHeld => ?_)
                clear hK K
                refine norm_ (a' := ?_) ?_ ?_
                rotate_left
                ·show Act.put _ (some 31) _ = _
                 simp only [Act.put, qA, qB, qC, i64_w, i32_w]
                 rfl
                refine pure_ (i := 5) (N := some 26) (v := ?_) (a' := ?_) Mk17_14 rfl rfl (any_of HT_.out (by kernel_rfl)) (fun _ _ _ h => h) (Or.inl ⟨by rfl, ?_⟩) ?_ ?_
                rotate_left
                ·intro w'
                 go_simp
                 with_reducible rfl
                rotate_left
                ·simp only [Act.put, qA, qB, qC, i64_w, i32_w]
                 rfl
                refine pure_ (i := 6) (N := some 32) (v := ?_) (a' := ?_) Mk17_17 rfl rfl (any_of HT_.out (by kernel_rfl)) (fun _ _ _ h => h) (Or.inl ⟨by rfl, ?_⟩) ?_ ?_
                rotate_left
                ·intro w'
                 go_simp
                 with_reducible rfl
                rotate_left
                ·simp only [Act.put, qA, qB, qC, i64_w, i32_w]
                 rfl
                refine pure_ (i := 7) (N := some 33) (v := ?_) (a' := ?_) Mk17_20 rfl rfl (any_of HT_.out (by kernel_rfl)) (fun _ _ _ h => h) (Or.inl ⟨by rfl, ?_⟩) ?_ ?_
                rotate_left
                ·intro w'
                 go_simp
                 with_reducible rfl
                rotate_left
                ·simp only [Act.put, qA, qB, qC, i64_w, i32_w]
                 rfl
                exact norm_ (by simp only [putAll, Act.put, qA, qB, qC]) (hCont (.slice Ao59 t439.length co59, .slice Ao60 t442.length co60, v449, v452, gb455) _ ⟨hHeld, (rS HO450), (qS HO453), (kS BK434), (kS BK435), (kS BK455), GW455.out, GE455.out, NB434_455.out, NB455_434.out, NB435_455.out, NB455_435.out, (wZ HB)⟩)
              ·skip
               refine box_step ?hg (N := 6) ?hd (cs := #[.int .i64 0, .slice none 0 0, .slice none 0 0]) (t := 58) ?hr ?_; (case hd => rfl); (case hg => rfl); (case hr => first | (go_simp; done) | (go_simp; rfl))
               intro gb455 hg w57 hbox hb
               replace HO441 := bR HO441 hb
               replace HO444 := bS HO444 hb
               have BK455 := Asd.mk (hbox)
               have GW455 := bG HB hg
               have GE455 := bG HB hg
               replace HB := bW HB hb
               have NB434_455 := bL BK434 hg
               have NB455_434 := bM BK434 hg
               replace BK434 := bU BK434 hb
               have NB435_455 := bL BK435 hg
               have NB455_435 := bM BK435 hg
               replace BK435 := bU BK435 hb
               clear hb hbox hg
               refine hK.out _ _ ⟨(bkC BK434.out 0).trans rfl, (bkC BK434.out 1).trans rfl, (bkC BK434.out 2).trans rfl, (bkC BK435.out 0).trans rfl, (bkC BK435.out 1).trans rfl⟩ (fun hHeld => ?_)
               clear hK K
               refine norm_ (a' := ?_) ?_ ?_
               rotate_left
               ·show Act.put _ (some 6) _ = _
                simp only [Act.put, qA, qB, qC, i64_w, i32_w]
                rfl
               refine one_ (i := 3) (N := some 30) Mk17_8 rfl rfl (one_of HT_.out (by kernel_rfl)) (by decide) (fun K hK => ?_)
               refine goes_ Try.func21 (by kernel_rfl) rfl #[.agg #[.int .i64 a1_0, .string a1_1]] (by rfl) rfl rfl (by (try simp only [List.map_toArray, List.map_cons, List.map_nil]); first | done | rfl | (simp only [List.length_drop, List.length_take]; rfl)) ?_
               with_reducible refine (laws_toDeed.calls a1_0 a1_1 t445 t446 _ A20.out).mono ?_
               rintro e w58 ⟨rfl, hb⟩
               refine ⟨_, rfl, ?_⟩
               replace HO441 := bR HO441 hb
               replace HO444 := bS HO444 hb
               replace BK434 := bU BK434 hb
               replace BK435 := bU BK435 hb
               replace BK455 := bU BK455 hb
               replace HB := bW HB hb
               (try clear hb)
               (try clear hb2)
               (try clear hk)
               (try clear hi)
               obtain ⟨Ao59, co59, eo59⟩ := Kd.R_slice HO441.out
               (first | subst eo59 | (injection eo59 with f1_ f2_ f3_; have f4_ := f1_.symm; have f5_ := f3_.symm; clear f1_ f2_ f3_; subst f4_; subst f5_))
               obtain ⟨Ao60, co60, eo60⟩ := Kd.S_slice HO444.out
               (first | subst eo60 | (injection eo60 with f1_ f2_ f3_; have f4_ := f1_.symm; have f5_ := f3_.symm; clear f1_ f2_ f3_; subst f4_; subst f5_))
               refine hK.out _ _ ⟨(bkC BK434.out 0).trans rfl, (bkC BK434.out 1).trans rfl, (bkC BK434.out 2).trans rfl, (bkC BK435.out 0).trans rfl, (bkC BK435.out 1).trans rfl⟩ (fun hHeld => ?_)
               clear hK K
               refine norm_ (a' := ?_) ?_ ?_
               rotate_left
               ·show Act.put _ (some 30) _ = _
                simp only [Act.put, qA, qB, qC, i64_w, i32_w]
                rfl
               refine one_ (i := 4) (N := some 31) Mk17_11 rfl rfl (one_of HT_.out (by kernel_rfl)) (by decide) (fun K hK => ?_)
               refine goes_ Try.func63 (by kernel_rfl) rfl #[.agg #[.int .i64 t438, .slice Ao59 t439.length co59, .slice Ao60 t442.length co60], .agg #[.int .i64 t445, .string t446]] (by rfl) rfl rfl (by (try simp only [List.map_toArray, List.map_cons, List.map_nil]); first | done | rfl | (simp only [List.length_drop, List.length_take]; rfl)) ?_
               with_reducible refine (spec_MindDo.calls k t438 _ _ t439 _ _ t442 t445 t446 t447 t448 t451 t454 _ ?side1 ?side2 ?side3 ?side4 A21.out).mono ?_
               (case side1 => exact cZ (Kd.R_reads' HO441.out).2.2)
               (case side2 => exact (Kd.R_reads' HO441.out).2.1)
               (case side3 => exact cZ (Kd.S_reads' HO444.out).2.2)
               (case side4 => exact (Kd.S_reads' HO444.out).2.1)
               rintro e w61 ⟨v449, v452, rfl, ho0, ho1, hb⟩
               refine ⟨_, rfl, ?_⟩
               have HO450 := Asd.mk (Kd.R_mono (Kd.R_lower ho0 (below_size (wZ HB))) (fun _ _ => trivial))
               have HO453 := Asd.mk (Kd.Q_mono (Kd.Q_lower ho1 (below_size (wZ HB))) (fun _ _ => trivial))
               replace HO441 := bR HO441 hb
               replace HO444 := bS HO444 hb
               replace BK434 := bU BK434 hb
               replace BK435 := bU BK435 hb
               replace BK455 := bU BK455 hb
               replace HB := bW HB hb
               (try clear hb)
               (try clear hb2)
               (try clear hk)
               (try clear hi)
               (try clear ho0)
               (try clear ho1)
               refine hK.out _ _ ⟨(bkC BK434.out 0).trans rfl, (bkC BK434.out 1).trans rfl, (bkC BK434.out 2).trans rfl, (bkC BK435.out 0).trans rfl, (bkC BK435.out 1).trans rfl⟩ (fun hHeld => ?_)
               clear hK K
               refine norm_ (a' := ?_) ?_ ?_
               rotate_left
               ·show Act.put _ (some 31) _ = _
                simp only [Act.put, qA, qB, qC, i64_w, i32_w]
                rfl
               refine pure_ (i := 5) (N := some 26) (v := ?_) (a' := ?_) Mk17_14 rfl rfl (any_of HT_.out (by kernel_rfl)) (fun _ _ _ h => h) (Or.inl ⟨by rfl, ?_⟩) ?_ ?_
               rotate_left
               ·intro w'
                go_simp
                with_reducible rfl
               rotate_left
               ·simp only [Act.put, qA, qB, qC, i64_w, i32_w]
                rfl
               refine pure_ (i := 6) (N := some 32) (v := ?_) (a' := ?_) Mk17_17 rfl rfl (any_of HT_.out (by kernel_rfl)) (fun _ _ _ h => h) (Or.inl ⟨by rfl, ?_⟩) ?_ ?_
               rotate_left
               ·intro w'
                go_simp
                with_reducible rfl
               rotate_left
               ·simp only [Act.put, qA, qB, qC, i64_w, i32_w]
                rfl
               refine pure_ (i := 7) (N := some 33) (v := ?_) (a' := ?_) Mk17_20 rfl rfl (any_of HT_.out (by kernel_rfl)) (fun _ _ _ h => h) (Or.inl ⟨by rfl, ?_⟩) ?_ ?_
               rotate_left
               ·intro w'
                go_simp
                with_reducible rfl
               rotate_left
               ·simp only [Act.put, qA, qB, qC, i64_w, i32_w]
                rfl
               exact norm_ (by simp only [putAll, Act.put, qA, qB, qC]) (hCont (.slice Ao59 t439.length co59, .slice Ao60 t442.length co60, v449, v452, gb455) _ ⟨hHeld, (rS HO450), (qS HO453), (kS BK434), (kS BK435), (kS BK455), GW455.out, GE455.out, NB434_455.out, NB455_434.out, NB435_455.out, NB455_435.out, (wZ HB)⟩)
             ·skip
              refine box_step ?hg (N := 6) ?hd (cs := #[.int .i64 0, .slice none 0 0, .slice none 0 0]) (t := 58) ?hr ?_; (case hd => rfl); (case hg => rfl); (case hr => first | (go_simp; done) | (go_simp; rfl))
              intro gb455 hg w56 hbox hb
              have BK455 := Asd.mk (hbox)
              have GW455 := bG HB hg
              have GE455 := bG HB hg
              replace HB := bW HB hb
              have NB434_455 := bL BK434 hg
              have NB455_434 := bM BK434 hg
              replace BK434 := bU BK434 hb
              have NB435_455 := bL BK435 hg
              have NB455_435 := bM BK435 hg
              replace BK435 := bU BK435 hb
              clear hb hbox hg
              refine hK.out _ _ ⟨(bkC BK434.out 0).trans rfl, (bkC BK434.out 1).trans rfl, (bkC BK434.out 2).trans rfl, (bkC BK435.out 0).trans rfl, (bkC BK435.out 1).trans rfl⟩ (fun hHeld => ?_)
              clear hK K
              refine norm_ (a' := ?_) ?_ ?_
              rotate_left
              ·show Act.put _ (some 6) _ = _
               simp only [Act.put, qA, qB, qC, i64_w, i32_w]
               rfl
              refine one_ (i := 1) (N := some 28) Mk17_5 rfl rfl (one_of HT_.out (by kernel_rfl)) (by decide) (fun K hK => ?_)
              refine goes_ Try.func53 (by kernel_rfl) rfl #[.agg #[.int .i64 a0_0, .slice A0_1 l0_1.length c0_1, .slice A0_2 l0_2.length c0_2]] (by rfl) rfl rfl (by (try simp only [List.map_toArray, List.map_cons, List.map_nil]); first | done | rfl | (simp only [List.length_drop, List.length_take]; rfl)) ?_
              with_reducible refine (laws_toMind.calls k a0_0 _ _ l0_1 _ _ l0_2 t438 t439 t442 _ ?side1 ?side2 ?side3 ?side4 A19.out).mono ?_
              (case side1 => exact cZ (Kd.C_below HR0_1.out HB.out))
              (case side2 => exact HC0_1.out)
              (case side3 => exact cZ (Kd.C_below HR0_2.out HB.out))
              (case side4 => exact HC0_2.out)
              rintro e w57 ⟨v440, v443, rfl, ho0, ho1, hb⟩
              refine ⟨_, rfl, ?_⟩
              have HO441 := Asd.mk (Kd.R_mono (Kd.R_lower ho0 (below_size (wZ HB))) (fun _ _ => trivial))
              have HO444 := Asd.mk (Kd.S_mono (Kd.S_lower ho1 (below_size (wZ HB))) (fun _ _ => trivial))
              replace BK434 := bU BK434 hb
              replace BK435 := bU BK435 hb
              replace BK455 := bU BK455 hb
              replace HB := bW HB hb
              (try clear hb)
              (try clear hb2)
              (try clear hk)
              (try clear hi)
              (try clear ho0)
              (try clear ho1)
              refine hK.out _ _ ⟨(bkC BK434.out 0).trans rfl, (bkC BK434.out 1).trans rfl, (bkC BK434.out 2).trans rfl, (bkC BK435.out 0).trans rfl, (bkC BK435.out 1).trans rfl⟩ (fun hHeld => ?_)
              clear hK K
              refine norm_ (a' := ?_) ?_ ?_
              rotate_left
              ·show Act.put _ (some 28) _ = _
               simp only [Act.put, qA, qB, qC, i64_w, i32_w]
               rfl
              refine one_ (i := 3) (N := some 30) Mk17_8 rfl rfl (one_of HT_.out (by kernel_rfl)) (by decide) (fun K hK => ?_)
              refine goes_ Try.func21 (by kernel_rfl) rfl #[.agg #[.int .i64 a1_0, .string a1_1]] (by rfl) rfl rfl (by (try simp only [List.map_toArray, List.map_cons, List.map_nil]); first | done | rfl | (simp only [List.length_drop, List.length_take]; rfl)) ?_
              with_reducible refine (laws_toDeed.calls a1_0 a1_1 t445 t446 _ A20.out).mono ?_
              rintro e w58 ⟨rfl, hb⟩
              refine ⟨_, rfl, ?_⟩
              replace HO441 := bR HO441 hb
              replace HO444 := bS HO444 hb
              replace BK434 := bU BK434 hb
              replace BK435 := bU BK435 hb
              replace BK455 := bU BK455 hb
              replace HB := bW HB hb
              (try clear hb)
              (try clear hb2)
              (try clear hk)
              (try clear hi)
              obtain ⟨Ao59, co59, eo59⟩ := Kd.R_slice HO441.out
              (first | subst eo59 | (injection eo59 with f1_ f2_ f3_; have f4_ := f1_.symm; have f5_ := f3_.symm; clear f1_ f2_ f3_; subst f4_; subst f5_))
              obtain ⟨Ao60, co60, eo60⟩ := Kd.S_slice HO444.out
              (first | subst eo60 | (injection eo60 with f1_ f2_ f3_; have f4_ := f1_.symm; have f5_ := f3_.symm; clear f1_ f2_ f3_; subst f4_; subst f5_))
              refine hK.out _ _ ⟨(bkC BK434.out 0).trans rfl, (bkC BK434.out 1).trans rfl, (bkC BK434.out 2).trans rfl, (bkC BK435.out 0).trans rfl, (bkC BK435.out 1).trans rfl⟩ (fun hHeld => ?_)
              clear hK K
              refine norm_ (a' := ?_) ?_ ?_
              rotate_left
              ·show Act.put _ (some 30) _ = _
               simp only [Act.put, qA, qB, qC, i64_w, i32_w]
               rfl
              refine one_ (i := 4) (N := some 31) Mk17_11 rfl rfl (one_of HT_.out (by kernel_rfl)) (by decide) (fun K hK => ?_)
              refine goes_ Try.func63 (by kernel_rfl) rfl #[.agg #[.int .i64 t438, .slice Ao59 t439.length co59, .slice Ao60 t442.length co60], .agg #[.int .i64 t445, .string t446]] (by rfl) rfl rfl (by (try simp only [List.map_toArray, List.map_cons, List.map_nil]); first | done | rfl | (simp only [List.length_drop, List.length_take]; rfl)) ?_
              with_reducible refine (spec_MindDo.calls k t438 _ _ t439 _ _ t442 t445 t446 t447 t448 t451 t454 _ ?side1 ?side2 ?side3 ?side4 A21.out).mono ?_
              (case side1 => exact cZ (Kd.R_reads' HO441.out).2.2)
              (case side2 => exact (Kd.R_reads' HO441.out).2.1)
              (case side3 => exact cZ (Kd.S_reads' HO444.out).2.2)
              (case side4 => exact (Kd.S_reads' HO444.out).2.1)
              rintro e w61 ⟨v449, v452, rfl, ho0, ho1, hb⟩
              refine ⟨_, rfl, ?_⟩
              have HO450 := Asd.mk (Kd.R_mono (Kd.R_lower ho0 (below_size (wZ HB))) (fun _ _ => trivial))
              have HO453 := Asd.mk (Kd.Q_mono (Kd.Q_lower ho1 (below_size (wZ HB))) (fun _ _ => trivial))
              replace BK434 := bU BK434 hb
              replace BK435 := bU BK435 hb
              replace BK455 := bU BK455 hb
              replace HB := bW HB hb
              (try clear hb)
              (try clear hb2)
              (try clear hk)
              (try clear hi)
              (try clear ho0)
              (try clear ho1)
              refine hK.out _ _ ⟨(bkC BK434.out 0).trans rfl, (bkC BK434.out 1).trans rfl, (bkC BK434.out 2).trans rfl, (bkC BK435.out 0).trans rfl, (bkC BK435.out 1).trans rfl⟩ (fun hHeld => ?_)
              clear hK K
              refine norm_ (a' := ?_) ?_ ?_
              rotate_left
              ·show Act.put _ (some 31) _ = _
               simp only [Act.put, qA, qB, qC, i64_w, i32_w]
               rfl
              refine pure_ (i := 5) (N := some 26) (v := ?_) (a' := ?_) Mk17_14 rfl rfl (any_of HT_.out (by kernel_rfl)) (fun _ _ _ h => h) (Or.inl ⟨by rfl, ?_⟩) ?_ ?_
              rotate_left
              ·intro w'
               go_simp
               with_reducible rfl
              rotate_left
              ·simp only [Act.put, qA, qB, qC, i64_w, i32_w]
               rfl
              refine pure_ (i := 6) (N := some 32) (v := ?_) (a' := ?_) Mk17_17 rfl rfl (any_of HT_.out (by kernel_rfl)) (fun _ _ _ h => h) (Or.inl ⟨by rfl, ?_⟩) ?_ ?_
              rotate_left
              ·intro w'
               go_simp
               with_reducible rfl
              rotate_left
              ·simp only [Act.put, qA, qB, qC, i64_w, i32_w]
               rfl
              refine pure_ (i := 7) (N := some 33) (v := ?_) (a' := ?_) Mk17_20 rfl rfl (any_of HT_.out (by kernel_rfl)) (fun _ _ _ h => h) (Or.inl ⟨by rfl, ?_⟩) ?_ ?_
              rotate_left
              ·intro w'
               go_simp
               with_reducible rfl
              rotate_left
              ·simp only [Act.put, qA, qB, qC, i64_w, i32_w]
               rfl
              exact norm_ (by simp only [putAll, Act.put, qA, qB, qC]) (hCont (.slice Ao59 t439.length co59, .slice Ao60 t442.length co60, v449, v452, gb455) _ ⟨hHeld, (rS HO450), (qS HO453), (kS BK434), (kS BK435), (kS BK455), GW455.out, GE455.out, NB434_455.out, NB455_434.out, NB435_455.out, NB455_435.out, (wZ HB)⟩)
            rintro ⟨v440, v443, v449, v452, gb455⟩ w62 ⟨hS_, h2_, h3_, h4_, h5_, h6_, h7_, h8_, h9_, h10_, h11_, h12_, h13_⟩
            have HO450 : Asd (Kd.R (Kd.int .i64) 3 w62 w.heap.size (fun _ => True) v449 t448) := ⟨h2_⟩
            have HO453 : Asd (Kd.Q (Kd.slice 3 (Kd.int .i64)) 55 w62 w.heap.size (fun _ => True) v452 t451) := ⟨h3_⟩
            replace BK434 : Asd (w62.heap[gb434]? = some (.cells #[.int .i64 a0_0, .slice A0_1 l0_1.length c0_1, .slice A0_2 l0_2.length c0_2] 67 (0, 0))) := ⟨h4_⟩
            replace BK435 : Asd (w62.heap[gb435]? = some (.cells #[.int .i64 a1_0, .string a1_1] 23 (0, 0))) := ⟨h5_⟩
            have BK455 : Asd (w62.heap[gb455]? = some (.cells #[.int .i64 0, .slice none 0 0, .slice none 0 0] 58 (0, 0))) := ⟨h6_⟩
            have GW455 : Asd (w.heap.size ≤ gb455) := ⟨h7_⟩
            have GE455 : Asd (w.heap.size ≤ gb455) := ⟨h8_⟩
            have NB434_455 : Asd (gb434 ≠ gb455) := ⟨h9_⟩
            have NB455_434 : Asd (gb455 ≠ gb434) := ⟨h10_⟩
            have NB435_455 : Asd (gb435 ≠ gb455) := ⟨h11_⟩
            have NB455_435 : Asd (gb455 ≠ gb435) := ⟨h12_⟩
            replace HB : Asd (Below w.heap.size w w62) := ⟨h13_⟩
            clear h2_ h3_ h4_ h5_ h6_ h7_ h8_ h9_ h10_ h11_ h12_ h13_
            have hHeld : w62.cell? ⟨gb434, 0, none⟩ = some (.int .i64 a0_0) ∧ w62.cell? ⟨gb434, 1, none⟩ = some (.slice A0_1 l0_1.length c0_1) ∧ w62.cell? ⟨gb434, 2, none⟩ = some (.slice A0_2 l0_2.length c0_2) ∧ w62.cell? ⟨gb435, 0, none⟩ = some (.int .i64 a1_0) ∧ w62.cell? ⟨gb435, 1, none⟩ = some (.string a1_1) := hS_
            obtain ⟨Ao64, co64, eo64⟩ := Kd.R_slice HO450.out
            (first | subst eo64 | (injection eo64 with f1_ f2_ f3_; have f4_ := f1_.symm; have f5_ := f3_.symm; clear f1_ f2_ f3_; subst f4_; subst f5_))
            obtain ⟨Ao66, co66, eo66, _⟩ := Kd.Q_slice HO453.out
            (first | subst eo66 | (injection eo66 with f1_ f2_ f3_; have f4_ := f1_.symm; have f5_ := f3_.symm; clear f1_ f2_ f3_; subst f4_; subst f5_))
            refine norm_ (a' := ?_) ?_ ?_
            rotate_left
            ·simp only [putAll, Act.put, qA, qB, qC]
             rfl
            refine one_ (i := 9) (N := none) Mk17_21 rfl rfl (one_of HT_.out (by kernel_rfl)) (by decide) (fun K hK => ?_)
            have hs63 := bC BK455 0
            have hfs63 := bkF BK455.out 0
            have hns63_0 := NB434_455.out
            have hns63_1 := NB435_455.out
            have hms63_0 := NB455_434.out
            have hms63_1 := NB455_435.out
            have hs65 := bC BK455 1
            have hfs65 := bkF BK455.out 1
            have hns65_0 := NB434_455.out
            have hns65_1 := NB435_455.out
            have hms65_0 := NB455_434.out
            have hms65_1 := NB455_435.out
            have hs67 := bC BK455 2
            have hfs67 := bkF BK455.out 2
            have hns67_0 := NB434_455.out
            have hns67_1 := NB435_455.out
            have hms67_0 := NB455_434.out
            have hms67_1 := NB455_435.out
            refine skip_ (w1 := ?_) (by rfl) rfl ?_ ?_
            rotate_left
            ·go_simp
             rfl
            refine hK.out _ _ ⟨((cell_far (p := ⟨gb455, _, none⟩) NB434_455.out _).trans (((cell_far (p := ⟨gb455, _, none⟩) NB434_455.out _).trans (((cell_far (p := ⟨gb455, _, none⟩) NB434_455.out _).trans (hHeld.1)))))), ((cell_far (p := ⟨gb455, _, none⟩) NB434_455.out _).trans (((cell_far (p := ⟨gb455, _, none⟩) NB434_455.out _).trans (((cell_far (p := ⟨gb455, _, none⟩) NB434_455.out _).trans (hHeld.2.1)))))), ((cell_far (p := ⟨gb455, _, none⟩) NB434_455.out _).trans (((cell_far (p := ⟨gb455, _, none⟩) NB434_455.out _).trans (((cell_far (p := ⟨gb455, _, none⟩) NB434_455.out _).trans (hHeld.2.2.1)))))), ((cell_far (p := ⟨gb455, _, none⟩) NB435_455.out _).trans (((cell_far (p := ⟨gb455, _, none⟩) NB435_455.out _).trans (((cell_far (p := ⟨gb455, _, none⟩) NB435_455.out _).trans (hHeld.2.2.2.1)))))), ((cell_far (p := ⟨gb455, _, none⟩) NB435_455.out _).trans (((cell_far (p := ⟨gb455, _, none⟩) NB435_455.out _).trans (((cell_far (p := ⟨gb455, _, none⟩) NB435_455.out _).trans (hHeld.2.2.2.2))))))⟩ (fun hHeld => ?_)
            clear hK K
            refine pure_ (i := 10) (N := some 7) (v := ?_) (a' := ?_) Mk17_22 rfl rfl (any_of HT_.out (by kernel_rfl)) (fun _ _ _ h => h) (Or.inl ⟨by rfl, ?_⟩) ?_ ?_
            rotate_left
            ·intro w'
             go_simp
             with_reducible rfl
            rotate_left
            ·simp only [Act.put, qA, qB, qC, i64_w, i32_w]
             rfl
            refine done_ (done_of HT_.out (by kernel_rfl)) ?_
            have hnb68 := NB434_455.out
            have hnc68 := NB455_434.out
            obtain ⟨hcz69_0, hcz69_1, hcz69_2, hfz69_0, hfz69_1, hfz69_2⟩ := b3 BK434
            try go_wp2_with (first | ((with_reducible refine gate_callee (f := 53) rfl ?_); refine gsM (some 35) rfl rfl Try.func53 (by kernel_rfl) rfl #[.agg #[.int .i64 a0_0, .slice A0_1 l0_1.length c0_1, .slice A0_2 l0_2.length c0_2]] rfl ?_; (with_reducible refine (laws_toMind.calls k a0_0 _ _ l0_1 _ _ l0_2 t456 t457 t460 _ ?side1 ?side2 ?side3 ?side4 A22.out).mono ?_); (case side1 => exact Kd.C_below HR0_1.out (wZ HB)); (case side2 => exact HC0_1.out); (case side3 => exact Kd.C_below HR0_2.out (wZ HB)); (case side4 => exact HC0_2.out); rintro e w70 ⟨v458, v461, rfl, ho0, ho1, hb⟩; refine ⟨_, rfl, ?_⟩; obtain ⟨wb, GB, GW, HN450, HN453, BN434, BN435, BN455, HX1, HX2⟩ : ∃ wb : World, Asd (Below wb.heap.size wb w70) ∧ Asd (Below w.heap.size w wb) ∧ Asd (Kd.R (Kd.int .i64) 3 wb w.heap.size (fun _ => True) (.slice Ao64 t448.length co64) t448) ∧ Asd (Kd.Q (Kd.slice 3 (Kd.int .i64)) 55 wb w.heap.size (fun _ => True) (.slice Ao66 t451.length co66) t451) ∧ Asd (wb.heap[gb434]? = some (.cells #[.int .i64 a0_0, .slice A0_1 l0_1.length c0_1, .slice A0_2 l0_2.length c0_2] 67 (0, 0))) ∧ Asd (wb.heap[gb435]? = some (.cells #[.int .i64 a1_0, .string a1_1] 23 (0, 0))) ∧ Asd (wb.heap[gb455]? = some (.cells #[.int .i64 t447, .slice Ao64 t448.length co64, .slice Ao66 t451.length co66] 58 (0, 0))) ∧ Asd (Kd.R (Kd.int .i64) 3 w70 wb.heap.size (fun _ => True) v458 t457) ∧ Asd (Kd.S (Kd.slice 3 (Kd.int .i64)) 55 w70 wb.heap.size (fun k_ => some k_ ≠ (v458 : Value).ownBlock) v461 t460) := ⟨_, ⟨hb⟩, ⟨wZ HB⟩, ⟨rT HO450⟩, ⟨qT HO453⟩, ⟨kS BK434⟩, ⟨kS BK435⟩, ⟨kP BK455⟩, ⟨ho0⟩, ⟨ho1⟩⟩; have GAB := Asd.mk (below_size GB.out); have GA := Asd.mk (Below.refl w70.heap.size w70); have HO459 := Asd.mk (Kd.R_mono (Kd.R_lower ho0 (below_size (wZ HB))) (fun _ _ => trivial)); have HO462 := Asd.mk (Kd.S_mono (Kd.S_lower ho1 (below_size (wZ HB))) (fun _ _ => trivial)); replace HO450 := Asd.mk (Kd.R_below (rT HO450) hb); replace HO453 := Asd.mk (Kd.Q_below (qT HO453) hb); replace BK434 := bU BK434 hb; replace BK435 := bU BK435 hb; replace BK455 := bP #[.int .i64 t447, .slice Ao64 t448.length co64, .slice Ao66 t451.length co66] BK455 hb; replace HB := bW HB hb; (try clear hb); (try clear hb2); (try clear hk); (try clear hi); (try clear ho0); (try clear ho1)) | ((with_reducible refine gate_dst (N := 8) rfl ?_); refine bxE ?hg (N := 8) ?hd (cs := #[.int .i64 0, .slice none 0 0, .slice none 0 0]) (t := 58) ?hr ?_; (case hd => rfl); (case hg => rfl); (case hr => first | (go_simp; done) | (go_simp; rfl)); intro gb463 hg w71 hbox hb; replace HO450 := bR HO450 hb; replace HO453 := bQ HO453 hb; replace HO459 := bR HO459 hb; replace HO462 := bS HO462 hb; have BK463 := Asd.mk (hbox); have GW463 := bG HB hg; have GE463 := bG HB hg; have GB463 := bG GB hg; have GA463 := bG GA hg; replace HB := bW HB hb; replace GB := bW GB hb; replace GA := bW GA hb; have NB434_463 := bL BK434 hg; have NB463_434 := bM BK434 hg; replace BK434 := bU BK434 hb; have NB435_463 := bL BK435 hg; have NB463_435 := bM BK435 hg; replace BK435 := bU BK435 hb; have NB455_463 := bL BK455 hg; have NB463_455 := bM BK455 hg; replace BK455 := bU BK455 hb; clear hb hbox hg; have hnb72 := NB463_434.out; have hnc72 := NB434_463.out; have hnb73 := NB463_435.out; have hnc73 := NB435_463.out; have hnb74 := NB463_455.out; have hnc74 := NB455_463.out; obtain ⟨hcz75_0, hcz75_1, hcz75_2, hfz75_0, hfz75_1, hfz75_2⟩ := b3 BK463; obtain ⟨Ao76, co76, eo76⟩ := Kd.R_slice HO459.out; subst eo76; obtain ⟨Ao77, co77, eo77⟩ := Kd.S_slice HO462.out; subst eo77))
            have n2_ : Asd (Kd.R (Kd.int .i64) 3 (((w71.setCell ⟨gb463, 0, none⟩ (.int .i64 t456)).setCell ⟨gb463, 1, none⟩ (.slice Ao76 t457.length co76)).setCell ⟨gb463, 2, none⟩ (.slice Ao77 t460.length co77)) w.heap.size (fun _ => True) (.slice Ao64 t448.length co64) t448) := ⟨rT HO450⟩
            have n3_ : Asd (Kd.Q (Kd.slice 3 (Kd.int .i64)) 55 (((w71.setCell ⟨gb463, 0, none⟩ (.int .i64 t456)).setCell ⟨gb463, 1, none⟩ (.slice Ao76 t457.length co76)).setCell ⟨gb463, 2, none⟩ (.slice Ao77 t460.length co77)) w.heap.size (fun _ => True) (.slice Ao66 t451.length co66) t451) := ⟨qT HO453⟩
            have n4_ : Asd (Kd.R (Kd.int .i64) 3 (((w71.setCell ⟨gb463, 0, none⟩ (.int .i64 t456)).setCell ⟨gb463, 1, none⟩ (.slice Ao76 t457.length co76)).setCell ⟨gb463, 2, none⟩ (.slice Ao77 t460.length co77)) w.heap.size (fun _ => True) (.slice Ao76 t457.length co76) t457) := ⟨rT HO459⟩
            have n5_ : Asd (Kd.S (Kd.slice 3 (Kd.int .i64)) 55 (((w71.setCell ⟨gb463, 0, none⟩ (.int .i64 t456)).setCell ⟨gb463, 1, none⟩ (.slice Ao76 t457.length co76)).setCell ⟨gb463, 2, none⟩ (.slice Ao77 t460.length co77)) w.heap.size (fun _ => True) (.slice Ao77 t460.length co77) t460) := ⟨sT HO462⟩
            have n6_ : Asd ((((w71.setCell ⟨gb463, 0, none⟩ (.int .i64 t456)).setCell ⟨gb463, 1, none⟩ (.slice Ao76 t457.length co76)).setCell ⟨gb463, 2, none⟩ (.slice Ao77 t460.length co77)).heap[gb434]? = some (.cells #[.int .i64 a0_0, .slice A0_1 l0_1.length c0_1, .slice A0_2 l0_2.length c0_2] 67 (0, 0))) := ⟨kS BK434⟩
            have n7_ : Asd ((((w71.setCell ⟨gb463, 0, none⟩ (.int .i64 t456)).setCell ⟨gb463, 1, none⟩ (.slice Ao76 t457.length co76)).setCell ⟨gb463, 2, none⟩ (.slice Ao77 t460.length co77)).heap[gb435]? = some (.cells #[.int .i64 a1_0, .string a1_1] 23 (0, 0))) := ⟨kS BK435⟩
            have n8_ : Asd ((((w71.setCell ⟨gb463, 0, none⟩ (.int .i64 t456)).setCell ⟨gb463, 1, none⟩ (.slice Ao76 t457.length co76)).setCell ⟨gb463, 2, none⟩ (.slice Ao77 t460.length co77)).heap[gb455]? = some (.cells #[.int .i64 t447, .slice Ao64 t448.length co64, .slice Ao66 t451.length co66] 58 (0, 0))) := ⟨kS BK455⟩
            have n9_ : Asd ((((w71.setCell ⟨gb463, 0, none⟩ (.int .i64 t456)).setCell ⟨gb463, 1, none⟩ (.slice Ao76 t457.length co76)).setCell ⟨gb463, 2, none⟩ (.slice Ao77 t460.length co77)).heap[gb463]? = some (.cells #[.int .i64 t456, .slice Ao76 t457.length co76, .slice Ao77 t460.length co77] 58 (0, 0))) := ⟨kP BK463⟩
            have n10_ : Asd (Below w.heap.size w (((w71.setCell ⟨gb463, 0, none⟩ (.int .i64 t456)).setCell ⟨gb463, 1, none⟩ (.slice Ao76 t457.length co76)).setCell ⟨gb463, 2, none⟩ (.slice Ao77 t460.length co77))) := ⟨wZ HB⟩
            have nGB_ : Asd (Below wb.heap.size wb (((w71.setCell ⟨gb463, 0, none⟩ (.int .i64 t456)).setCell ⟨gb463, 1, none⟩ (.slice Ao76 t457.length co76)).setCell ⟨gb463, 2, none⟩ (.slice Ao77 t460.length co77))) := ⟨wZ GB⟩
            have nGA_ : Asd (Below w70.heap.size w70 (((w71.setCell ⟨gb463, 0, none⟩ (.int .i64 t456)).setCell ⟨gb463, 1, none⟩ (.slice Ao76 t457.length co76)).setCell ⟨gb463, 2, none⟩ (.slice Ao77 t460.length co77))) := ⟨wZ GA⟩
            (try clear HO450)
            (try clear HO453)
            (try clear HO459)
            (try clear HO462)
            (try clear BK434)
            (try clear BK435)
            (try clear BK455)
            (try clear BK463)
            (try clear HB)
            (try clear GB)
            (try clear GA)
            generalize (((w71.setCell ⟨gb463, 0, none⟩ (.int .i64 t456)).setCell ⟨gb463, 1, none⟩ (.slice Ao76 t457.length co76)).setCell ⟨gb463, 2, none⟩ (.slice Ao77 t460.length co77)) = w78 at n2_ n3_ n4_ n5_ n6_ n7_ n8_ n9_ n10_ nGB_ nGA_ ⊢
            have HO450 := n2_
            have HO453 := n3_
            have HO459 := n4_
            have HO462 := n5_
            have BK434 := n6_
            have BK435 := n7_
            have BK455 := n8_
            have BK463 := n9_
            have HB := n10_
            have GB := nGB_
            have GA := nGA_
            clear n2_ n3_ n4_ n5_ n6_ n7_ n8_ n9_ n10_ nGB_ nGA_
            replace HO450 := Asd.mk (Kd.R_drew HO450.out)
            replace HO453 := Asd.mk (Kd.Q_drew HO453.out)
            replace HO459 := Asd.mk (Kd.R_drew HO459.out)
            replace HO462 := Asd.mk (Kd.S_drew HO462.out)
            replace BK434 := Asd.mk (bkD BK434.out)
            replace BK435 := Asd.mk (bkD BK435.out)
            replace BK455 := Asd.mk (bkD BK455.out)
            replace BK463 := Asd.mk (bkD BK463.out)
            replace HB := Asd.mk (bwD HB.out)
            replace GB := Asd.mk (bwD GB.out)
            replace GA := Asd.mk (bwD GA.out)
            refine start_ (n := 10) (S := fun w' => w'.cell? ⟨gb463, 0, none⟩ = some (.int .i64 t456) ∧ w'.cell? ⟨gb463, 1, none⟩ = some (.slice Ao76 t457.length co76) ∧ w'.cell? ⟨gb463, 2, none⟩ = some (.slice Ao77 t460.length co77) ∧ w'.cell? ⟨gb435, 0, none⟩ = some (.int .i64 a1_0) ∧ w'.cell? ⟨gb435, 1, none⟩ = some (.string a1_1)) (ds := []) #[false, false, false, false, false, false, false, false, false, false] (by kernel_rfl) rfl rfl ⟨(bkC BK463.out 0).trans rfl, (bkC BK463.out 1).trans rfl, (bkC BK463.out 2).trans rfl, (bkC BK435.out 0).trans rfl, (bkC BK435.out 1).trans rfl⟩ (fun hHeld => ?_); refine with_tabW laws_FnExactMindDo.tab10 laws_FnExactMindDo.bits10 (fun HT_ HW_ => ?_)
            generalize w78.drew = w79 at HO450 HO453 HO459 HO462 BK434 BK435 BK455 BK463 HB GB GA hHeld ⊢
            refine take_ (i := 0) (N := some 37) (v := ?_) (a' := ?_) #[true, false, false, false, false, false, false, false, false, false] rfl rfl (take_ofW HT_.out HW_.out (by kernel_rfl)) (fun _ _ _ h => h) (Or.inl ⟨by rfl, ?_⟩) hHeld ?_ ?_
            rotate_left
            ·rintro w' ⟨s0, s1, s2, s3, s4⟩
             go_simp
             with_reducible rfl
            rotate_left
            ·simp only [Act.put, qA, qB, qC, i64_w, i32_w]
             rfl
            refine take_ (i := 1) (N := some 38) (v := ?_) (a' := ?_) #[true, true, false, false, false, false, false, false, false, false] rfl rfl (take_ofW HT_.out HW_.out (by kernel_rfl)) (fun _ _ _ h => h) (Or.inl ⟨by rfl, ?_⟩) hHeld ?_ ?_
            rotate_left
            ·rintro w' ⟨s0, s1, s2, s3, s4⟩
             go_simp
             with_reducible rfl
            rotate_left
            ·simp only [Act.put, qA, qB, qC, i64_w, i32_w]
             rfl
            refine join_ (σ := Value × Value × Nat) 2 Mk17_19 (fun s_ => [(39, .agg #[.int .i64 t464, .string t465]), (40, .tuple #[.agg #[.int .i64 t466, s_.1, s_.2.1], .bool t473]), (9, .pointer (some ⟨s_.2.2, 0, none⟩)), (36, .tuple #[.agg #[.int .i64 t466, s_.1, s_.2.1], .bool t473]), (41, .agg #[.int .i64 t466, s_.1, s_.2.1]), (42, .bool t473)]) (fun s_ w' => (w'.cell? ⟨gb463, 0, none⟩ = some (.int .i64 t456) ∧ w'.cell? ⟨gb463, 1, none⟩ = some (.slice Ao76 t457.length co76) ∧ w'.cell? ⟨gb463, 2, none⟩ = some (.slice Ao77 t460.length co77) ∧ w'.cell? ⟨gb435, 0, none⟩ = some (.int .i64 a1_0) ∧ w'.cell? ⟨gb435, 1, none⟩ = some (.string a1_1)) ∧ (Kd.R (Kd.int .i64) 3 w' w.heap.size (fun _ => True) (.slice Ao64 t448.length co64) t448) ∧ (Kd.Q (Kd.slice 3 (Kd.int .i64)) 55 w' w.heap.size (fun _ => True) (.slice Ao66 t451.length co66) t451) ∧ (Kd.R (Kd.int .i64) 3 w' w.heap.size (fun _ => True) (.slice Ao76 t457.length co76) t457) ∧ (Kd.S (Kd.slice 3 (Kd.int .i64)) 55 w' w.heap.size (fun _ => True) (.slice Ao77 t460.length co77) t460) ∧ (Kd.R (Kd.int .i64) 3 w' w70.heap.size (fun _ => True) s_.1 t467) ∧ (Kd.S (Kd.slice 3 (Kd.int .i64)) 55 w' w70.heap.size (fun k_ => some k_ ≠ (s_.1 : Value).ownBlock) s_.2.1 t470) ∧ (w'.heap[gb434]? = some (.cells #[.int .i64 a0_0, .slice A0_1 l0_1.length c0_1, .slice A0_2 l0_2.length c0_2] 67 (0, 0))) ∧ (w'.heap[gb435]? = some (.cells #[.int .i64 a1_0, .string a1_1] 23 (0, 0))) ∧ (w'.heap[gb455]? = some (.cells #[.int .i64 t447, .slice Ao64 t448.length co64, .slice Ao66 t451.length co66] 58 (0, 0))) ∧ (w'.heap[gb463]? = some (.cells #[.int .i64 t456, .slice Ao76 t457.length co76, .slice Ao77 t460.length co77] 58 (0, 0))) ∧ (w'.heap[s_.2.2]? = some (.cells #[.int .i64 0, .slice none 0 0, .slice none 0 0] 58 (0, 0))) ∧ (w.heap.size ≤ s_.2.2) ∧ (w.heap.size ≤ s_.2.2) ∧ (wb.heap.size ≤ s_.2.2) ∧ (w70.heap.size ≤ s_.2.2) ∧ (gb434 ≠ s_.2.2) ∧ (s_.2.2 ≠ gb434) ∧ (gb435 ≠ s_.2.2) ∧ (s_.2.2 ≠ gb435) ∧ (gb455 ≠ s_.2.2) ∧ (s_.2.2 ≠ gb455) ∧ (gb463 ≠ s_.2.2) ∧ (s_.2.2 ≠ gb463) ∧ (Below w.heap.size w w') ∧ (Below wb.heap.size wb w') ∧ (Below w70.heap.size w70 w')) ?_ ?_
            rotate_left
            ·intro hCont
             refine two_ (i := 2) (j := 7) (Ni := some 39) (Nj := some 9) #[true, true, true, false, false, false, false, false, false, false] #[true, true, false, false, false, false, false, true, false, false] rfl rfl rfl rfl (two_of HT_.out (by kernel_rfl)) (by decide) (by decide) (fun K hK => ?_) (fun K hK => ?_)
             ·skip
              refine goes_ Try.func21 (by kernel_rfl) rfl #[.agg #[.int .i64 a1_0, .string a1_1]] (by rfl) rfl rfl (by (try simp only [List.map_toArray, List.map_cons, List.map_nil]); first | done | rfl | (simp only [List.length_drop, List.length_take]; rfl)) ?_
              with_reducible refine (laws_toDeed.calls a1_0 a1_1 t464 t465 _ A23.out).mono ?_
              rintro e w80 ⟨rfl, hb⟩
              refine ⟨_, rfl, ?_⟩
              replace HO450 := bR HO450 hb
              replace HO453 := bQ HO453 hb
              replace HO459 := bR HO459 hb
              replace HO462 := bS HO462 hb
              replace BK434 := bU BK434 hb
              replace BK435 := bU BK435 hb
              replace BK455 := bU BK455 hb
              replace BK463 := bU BK463 hb
              replace HB := bW HB hb
              replace GB := bW GB hb
              replace GA := bW GA hb
              (try clear hb)
              (try clear hb2)
              (try clear hk)
              (try clear hi)
              refine hK.out _ _ ⟨(bkC BK463.out 0).trans rfl, (bkC BK463.out 1).trans rfl, (bkC BK463.out 2).trans rfl, (bkC BK435.out 0).trans rfl, (bkC BK435.out 1).trans rfl⟩ (fun hHeld => ?_)
              clear hK K
              refine norm_ (a' := ?_) ?_ ?_
              rotate_left
              ·show Act.put _ (some 39) _ = _
               simp only [Act.put, qA, qB, qC, i64_w, i32_w]
               rfl
              refine two_ (i := 3) (j := 7) (Ni := some 40) (Nj := some 9) #[true, true, true, true, false, false, false, false, false, false] Mk17_6 rfl rfl rfl rfl (two_of HT_.out (by kernel_rfl)) (by decide) (by decide) (fun K hK => ?_) (fun K hK => ?_)
              ·skip
               refine goes_ Try.func64 (by kernel_rfl) rfl #[.agg #[.int .i64 t456, .slice Ao76 t457.length co76, .slice Ao77 t460.length co77], .agg #[.int .i64 t464, .string t465]] (by rfl) rfl rfl (by (try simp only [List.map_toArray, List.map_cons, List.map_nil]); first | done | rfl | (simp only [List.length_drop, List.length_take]; rfl)) ?_
               with_reducible refine (impl_MindDo.calls k t456 _ _ t457 _ _ t460 t464 t465 t466 t467 t470 t473 _ ?side1 ?side2 ?side3 ?side4 A24.out).mono ?_
               (case side1 => exact cZ (Kd.R_reads' HO459.out).2.2)
               (case side2 => exact (Kd.R_reads' HO459.out).2.1)
               (case side3 => exact cZ (Kd.S_reads' HO462.out).2.2)
               (case side4 => exact (Kd.S_reads' HO462.out).2.1)
               rintro e w81 ⟨v468, v471, rfl, ho0, ho1, hb⟩
               refine ⟨_, rfl, ?_⟩
               have HO469 := Asd.mk (Kd.R_mono (Kd.R_lower ho0 (below_size (wZ GA))) (fun _ _ => trivial))
               have HO472 := Asd.mk (Kd.S_lower ho1 (below_size (wZ GA)))
               replace HO450 := bR HO450 hb
               replace HO453 := bQ HO453 hb
               replace HO459 := bR HO459 hb
               replace HO462 := bS HO462 hb
               replace BK434 := bU BK434 hb
               replace BK435 := bU BK435 hb
               replace BK455 := bU BK455 hb
               replace BK463 := bU BK463 hb
               replace HB := bW HB hb
               replace GB := bW GB hb
               replace GA := bW GA hb
               (try clear hb)
               (try clear hb2)
               (try clear hk)
               (try clear hi)
               (try clear ho0)
               (try clear ho1)
               refine hK.out _ _ ⟨(bkC BK463.out 0).trans rfl, (bkC BK463.out 1).trans rfl, (bkC BK463.out 2).trans rfl, (bkC BK435.out 0).trans rfl, (bkC BK435.out 1).trans rfl⟩ (fun hHeld => ?_)
               clear hK K
               refine norm_ (a' := ?_) ?_ ?_
               rotate_left
               ·show Act.put _ (some 40) _ = _
                simp only [Act.put, qA, qB, qC, i64_w, i32_w]
                rfl
               refine pure_ (i := 4) (N := some 36) (v := ?_) (a' := ?_) #[true, true, true, true, true, false, false, false, false, false] rfl rfl (any_of HT_.out (by kernel_rfl)) (fun _ _ _ h => h) (Or.inl ⟨by rfl, ?_⟩) ?_ ?_
               rotate_left
               ·intro w'
                go_simp
                with_reducible rfl
               rotate_left
               ·simp only [Act.put, qA, qB, qC, i64_w, i32_w]
                rfl
               refine pure_ (i := 5) (N := some 41) (v := ?_) (a' := ?_) #[true, true, true, true, true, true, false, false, false, false] rfl rfl (any_of HT_.out (by kernel_rfl)) (fun _ _ _ h => h) (Or.inl ⟨by rfl, ?_⟩) ?_ ?_
               rotate_left
               ·intro w'
                go_simp
                with_reducible rfl
               rotate_left
               ·simp only [Act.put, qA, qB, qC, i64_w, i32_w]
                rfl
               refine pure_ (i := 6) (N := some 42) (v := ?_) (a' := ?_) #[true, true, true, true, true, true, true, false, false, false] rfl rfl (any_of HT_.out (by kernel_rfl)) (fun _ _ _ h => h) (Or.inl ⟨by rfl, ?_⟩) ?_ ?_
               rotate_left
               ·intro w'
                go_simp
                with_reducible rfl
               rotate_left
               ·simp only [Act.put, qA, qB, qC, i64_w, i32_w]
                rfl
               refine one_ (i := 7) (N := some 9) Mk17_19 rfl rfl (one_of HT_.out (by kernel_rfl)) (by decide) (fun K hK => ?_)
               refine box_step ?hg (N := 9) ?hd (cs := #[.int .i64 0, .slice none 0 0, .slice none 0 0]) (t := 58) ?hr ?_; (case hd => rfl); (case hg => rfl); (case hr => first | (go_simp; done) | (go_simp; rfl))
               intro gb474 hg w82 hbox hb
               replace HO450 := bR HO450 hb
               replace HO453 := bQ HO453 hb
               replace HO459 := bR HO459 hb
               replace HO462 := bS HO462 hb
               replace HO469 := bR HO469 hb
               replace HO472 := bS HO472 hb
               have BK474 := Asd.mk (hbox)
               have GW474 := bG HB hg
               have GE474 := bG HB hg
               have GB474 := bG GB hg
               have GA474 := bG GA hg
               replace HB := bW HB hb
               replace GB := bW GB hb
               replace GA := bW GA hb
               have NB434_474 := bL BK434 hg
               have NB474_434 := bM BK434 hg
               replace BK434 := bU BK434 hb
               have NB435_474 := bL BK435 hg
               have NB474_435 := bM BK435 hg
               replace BK435 := bU BK435 hb
               have NB455_474 := bL BK455 hg
               have NB474_455 := bM BK455 hg
               replace BK455 := bU BK455 hb
               have NB463_474 := bL BK463 hg
               have NB474_463 := bM BK463 hg
               replace BK463 := bU BK463 hb
               clear hb hbox hg
               refine hK.out _ _ ⟨(bkC BK463.out 0).trans rfl, (bkC BK463.out 1).trans rfl, (bkC BK463.out 2).trans rfl, (bkC BK435.out 0).trans rfl, (bkC BK435.out 1).trans rfl⟩ (fun hHeld => ?_)
               clear hK K
               refine norm_ (a' := ?_) ?_ ?_
               rotate_left
               ·show Act.put _ (some 9) _ = _
                simp only [Act.put, qA, qB, qC, i64_w, i32_w]
                rfl
               exact norm_ (by simp only [putAll, Act.put, qA, qB, qC]) (hCont (v468, v471, gb474) _ ⟨hHeld, (rS HO450), (qS HO453), (rS HO459), (sS HO462), (rS HO469), (sS HO472), (kS BK434), (kS BK435), (kS BK455), (kS BK463), (kS BK474), GW474.out, GE474.out, GB474.out, GA474.out, NB434_474.out, NB474_434.out, NB435_474.out, NB474_435.out, NB455_474.out, NB474_455.out, NB463_474.out, NB474_463.out, (wZ HB), (wZ GB), (wZ GA)⟩)
              ·skip
               refine box_step ?hg (N := 9) ?hd (cs := #[.int .i64 0, .slice none 0 0, .slice none 0 0]) (t := 58) ?hr ?_; (case hd => rfl); (case hg => rfl); (case hr => first | (go_simp; done) | (go_simp; rfl))
               intro gb474 hg w81 hbox hb
               replace HO450 := bR HO450 hb
               replace HO453 := bQ HO453 hb
               replace HO459 := bR HO459 hb
               replace HO462 := bS HO462 hb
               have BK474 := Asd.mk (hbox)
               have GW474 := bG HB hg
               have GE474 := bG HB hg
               have GB474 := bG GB hg
               have GA474 := bG GA hg
               replace HB := bW HB hb
               replace GB := bW GB hb
               replace GA := bW GA hb
               have NB434_474 := bL BK434 hg
               have NB474_434 := bM BK434 hg
               replace BK434 := bU BK434 hb
               have NB435_474 := bL BK435 hg
               have NB474_435 := bM BK435 hg
               replace BK435 := bU BK435 hb
               have NB455_474 := bL BK455 hg
               have NB474_455 := bM BK455 hg
               replace BK455 := bU BK455 hb
               have NB463_474 := bL BK463 hg
               have NB474_463 := bM BK463 hg
               replace BK463 := bU BK463 hb
               clear hb hbox hg
               refine hK.out _ _ ⟨(bkC BK463.out 0).trans rfl, (bkC BK463.out 1).trans rfl, (bkC BK463.out 2).trans rfl, (bkC BK435.out 0).trans rfl, (bkC BK435.out 1).trans rfl⟩ (fun hHeld => ?_)
               clear hK K
               refine norm_ (a' := ?_) ?_ ?_
               rotate_left
               ·show Act.put _ (some 9) _ = _
                simp only [Act.put, qA, qB, qC, i64_w, i32_w]
                rfl
               refine one_ (i := 3) (N := some 40) Mk17_9 rfl rfl (one_of HT_.out (by kernel_rfl)) (by decide) (fun K hK => ?_)
               refine goes_ Try.func64 (by kernel_rfl) rfl #[.agg #[.int .i64 t456, .slice Ao76 t457.length co76, .slice Ao77 t460.length co77], .agg #[.int .i64 t464, .string t465]] (by rfl) rfl rfl (by (try simp only [List.map_toArray, List.map_cons, List.map_nil]); first | done | rfl | (simp only [List.length_drop, List.length_take]; rfl)) ?_
               with_reducible refine (impl_MindDo.calls k t456 _ _ t457 _ _ t460 t464 t465 t466 t467 t470 t473 _ ?side1 ?side2 ?side3 ?side4 A24.out).mono ?_
               (case side1 => exact cZ (Kd.R_reads' HO459.out).2.2)
               (case side2 => exact (Kd.R_reads' HO459.out).2.1)
               (case side3 => exact cZ (Kd.S_reads' HO462.out).2.2)
               (case side4 => exact (Kd.S_reads' HO462.out).2.1)
               rintro e w82 ⟨v468, v471, rfl, ho0, ho1, hb⟩
               refine ⟨_, rfl, ?_⟩
               have HO469 := Asd.mk (Kd.R_mono (Kd.R_lower ho0 (below_size (wZ GA))) (fun _ _ => trivial))
               have HO472 := Asd.mk (Kd.S_lower ho1 (below_size (wZ GA)))
               replace HO450 := bR HO450 hb
               replace HO453 := bQ HO453 hb
               replace HO459 := bR HO459 hb
               replace HO462 := bS HO462 hb
               replace BK434 := bU BK434 hb
               replace BK435 := bU BK435 hb
               replace BK455 := bU BK455 hb
               replace BK463 := bU BK463 hb
               replace BK474 := bU BK474 hb
               replace HB := bW HB hb
               replace GB := bW GB hb
               replace GA := bW GA hb
               (try clear hb)
               (try clear hb2)
               (try clear hk)
               (try clear hi)
               (try clear ho0)
               (try clear ho1)
               refine hK.out _ _ ⟨(bkC BK463.out 0).trans rfl, (bkC BK463.out 1).trans rfl, (bkC BK463.out 2).trans rfl, (bkC BK435.out 0).trans rfl, (bkC BK435.out 1).trans rfl⟩ (fun hHeld => ?_)
               clear hK K
               refine norm_ (a' := ?_) ?_ ?_
               rotate_left
               ·show Act.put _ (some 40) _ = _
                simp only [Act.put, qA, qB, qC, i64_w, i32_w]
                rfl
               refine pure_ (i := 4) (N := some 36) (v := ?_) (a' := ?_) Mk17_12 rfl rfl (any_of HT_.out (by kernel_rfl)) (fun _ _ _ h => h) (Or.inl ⟨by rfl, ?_⟩) ?_ ?_
               rotate_left
               ·intro w'
                go_simp
                with_reducible rfl
               rotate_left
               ·simp only [Act.put, qA, qB, qC, i64_w, i32_w]
                rfl
               refine pure_ (i := 5) (N := some 41) (v := ?_) (a' := ?_) Mk17_15 rfl rfl (any_of HT_.out (by kernel_rfl)) (fun _ _ _ h => h) (Or.inl ⟨by rfl, ?_⟩) ?_ ?_
               rotate_left
               ·intro w'
                go_simp
                with_reducible rfl
               rotate_left
               ·simp only [Act.put, qA, qB, qC, i64_w, i32_w]
                rfl
               refine pure_ (i := 6) (N := some 42) (v := ?_) (a' := ?_) Mk17_19 rfl rfl (any_of HT_.out (by kernel_rfl)) (fun _ _ _ h => h) (Or.inl ⟨by rfl, ?_⟩) ?_ ?_
               rotate_left
               ·intro w'
                go_simp
                with_reducible rfl
               rotate_left
               ·simp only [Act.put, qA, qB, qC, i64_w, i32_w]
                rfl
               exact norm_ (by simp only [putAll, Act.put, qA, qB, qC]) (hCont (v468, v471, gb474) _ ⟨hHeld, (rS HO450), (qS HO453), (rS HO459), (sS HO462), (rS HO469), (sS HO472), (kS BK434), (kS BK435), (kS BK455), (kS BK463), (kS BK474), GW474.out, GE474.out, GB474.out, GA474.out, NB434_474.out, NB474_434.out, NB435_474.out, NB474_435.out, NB455_474.out, NB474_455.out, NB463_474.out, NB474_463.out, (wZ HB), (wZ GB), (wZ GA)⟩)
             ·skip
              refine box_step ?hg (N := 9) ?hd (cs := #[.int .i64 0, .slice none 0 0, .slice none 0 0]) (t := 58) ?hr ?_; (case hd => rfl); (case hg => rfl); (case hr => first | (go_simp; done) | (go_simp; rfl))
              intro gb474 hg w80 hbox hb
              replace HO450 := bR HO450 hb
              replace HO453 := bQ HO453 hb
              replace HO459 := bR HO459 hb
              replace HO462 := bS HO462 hb
              have BK474 := Asd.mk (hbox)
              have GW474 := bG HB hg
              have GE474 := bG HB hg
              have GB474 := bG GB hg
              have GA474 := bG GA hg
              replace HB := bW HB hb
              replace GB := bW GB hb
              replace GA := bW GA hb
              have NB434_474 := bL BK434 hg
              have NB474_434 := bM BK434 hg
              replace BK434 := bU BK434 hb
              have NB435_474 := bL BK435 hg
              have NB474_435 := bM BK435 hg
              replace BK435 := bU BK435 hb
              have NB455_474 := bL BK455 hg
              have NB474_455 := bM BK455 hg
              replace BK455 := bU BK455 hb
              have NB463_474 := bL BK463 hg
              have NB474_463 := bM BK463 hg
              replace BK463 := bU BK463 hb
              clear hb hbox hg
              refine hK.out _ _ ⟨(bkC BK463.out 0).trans rfl, (bkC BK463.out 1).trans rfl, (bkC BK463.out 2).trans rfl, (bkC BK435.out 0).trans rfl, (bkC BK435.out 1).trans rfl⟩ (fun hHeld => ?_)
              clear hK K
              refine norm_ (a' := ?_) ?_ ?_
              rotate_left
              ·show Act.put _ (some 9) _ = _
               simp only [Act.put, qA, qB, qC, i64_w, i32_w]
               rfl
              refine one_ (i := 2) (N := some 39) Mk17_6 rfl rfl (one_of HT_.out (by kernel_rfl)) (by decide) (fun K hK => ?_)
              refine goes_ Try.func21 (by kernel_rfl) rfl #[.agg #[.int .i64 a1_0, .string a1_1]] (by rfl) rfl rfl (by (try simp only [List.map_toArray, List.map_cons, List.map_nil]); first | done | rfl | (simp only [List.length_drop, List.length_take]; rfl)) ?_
              with_reducible refine (laws_toDeed.calls a1_0 a1_1 t464 t465 _ A23.out).mono ?_
              rintro e w81 ⟨rfl, hb⟩
              refine ⟨_, rfl, ?_⟩
              replace HO450 := bR HO450 hb
              replace HO453 := bQ HO453 hb
              replace HO459 := bR HO459 hb
              replace HO462 := bS HO462 hb
              replace BK434 := bU BK434 hb
              replace BK435 := bU BK435 hb
              replace BK455 := bU BK455 hb
              replace BK463 := bU BK463 hb
              replace BK474 := bU BK474 hb
              replace HB := bW HB hb
              replace GB := bW GB hb
              replace GA := bW GA hb
              (try clear hb)
              (try clear hb2)
              (try clear hk)
              (try clear hi)
              refine hK.out _ _ ⟨(bkC BK463.out 0).trans rfl, (bkC BK463.out 1).trans rfl, (bkC BK463.out 2).trans rfl, (bkC BK435.out 0).trans rfl, (bkC BK435.out 1).trans rfl⟩ (fun hHeld => ?_)
              clear hK K
              refine norm_ (a' := ?_) ?_ ?_
              rotate_left
              ·show Act.put _ (some 39) _ = _
               simp only [Act.put, qA, qB, qC, i64_w, i32_w]
               rfl
              refine one_ (i := 3) (N := some 40) Mk17_9 rfl rfl (one_of HT_.out (by kernel_rfl)) (by decide) (fun K hK => ?_)
              refine goes_ Try.func64 (by kernel_rfl) rfl #[.agg #[.int .i64 t456, .slice Ao76 t457.length co76, .slice Ao77 t460.length co77], .agg #[.int .i64 t464, .string t465]] (by rfl) rfl rfl (by (try simp only [List.map_toArray, List.map_cons, List.map_nil]); first | done | rfl | (simp only [List.length_drop, List.length_take]; rfl)) ?_
              with_reducible refine (impl_MindDo.calls k t456 _ _ t457 _ _ t460 t464 t465 t466 t467 t470 t473 _ ?side1 ?side2 ?side3 ?side4 A24.out).mono ?_
              (case side1 => exact cZ (Kd.R_reads' HO459.out).2.2)
              (case side2 => exact (Kd.R_reads' HO459.out).2.1)
              (case side3 => exact cZ (Kd.S_reads' HO462.out).2.2)
              (case side4 => exact (Kd.S_reads' HO462.out).2.1)
              rintro e w82 ⟨v468, v471, rfl, ho0, ho1, hb⟩
              refine ⟨_, rfl, ?_⟩
              have HO469 := Asd.mk (Kd.R_mono (Kd.R_lower ho0 (below_size (wZ GA))) (fun _ _ => trivial))
              have HO472 := Asd.mk (Kd.S_lower ho1 (below_size (wZ GA)))
              replace HO450 := bR HO450 hb
              replace HO453 := bQ HO453 hb
              replace HO459 := bR HO459 hb
              replace HO462 := bS HO462 hb
              replace BK434 := bU BK434 hb
              replace BK435 := bU BK435 hb
              replace BK455 := bU BK455 hb
              replace BK463 := bU BK463 hb
              replace BK474 := bU BK474 hb
              replace HB := bW HB hb
              replace GB := bW GB hb
              replace GA := bW GA hb
              (try clear hb)
              (try clear hb2)
              (try clear hk)
              (try clear hi)
              (try clear ho0)
              (try clear ho1)
              refine hK.out _ _ ⟨(bkC BK463.out 0).trans rfl, (bkC BK463.out 1).trans rfl, (bkC BK463.out 2).trans rfl, (bkC BK435.out 0).trans rfl, (bkC BK435.out 1).trans rfl⟩ (fun hHeld => ?_)
              clear hK K
              refine norm_ (a' := ?_) ?_ ?_
              rotate_left
              ·show Act.put _ (some 40) _ = _
               simp only [Act.put, qA, qB, qC, i64_w, i32_w]
               rfl
              refine pure_ (i := 4) (N := some 36) (v := ?_) (a' := ?_) Mk17_12 rfl rfl (any_of HT_.out (by kernel_rfl)) (fun _ _ _ h => h) (Or.inl ⟨by rfl, ?_⟩) ?_ ?_
              rotate_left
              ·intro w'
               go_simp
               with_reducible rfl
              rotate_left
              ·simp only [Act.put, qA, qB, qC, i64_w, i32_w]
               rfl
              refine pure_ (i := 5) (N := some 41) (v := ?_) (a' := ?_) Mk17_15 rfl rfl (any_of HT_.out (by kernel_rfl)) (fun _ _ _ h => h) (Or.inl ⟨by rfl, ?_⟩) ?_ ?_
              rotate_left
              ·intro w'
               go_simp
               with_reducible rfl
              rotate_left
              ·simp only [Act.put, qA, qB, qC, i64_w, i32_w]
               rfl
              refine pure_ (i := 6) (N := some 42) (v := ?_) (a' := ?_) Mk17_19 rfl rfl (any_of HT_.out (by kernel_rfl)) (fun _ _ _ h => h) (Or.inl ⟨by rfl, ?_⟩) ?_ ?_
              rotate_left
              ·intro w'
               go_simp
               with_reducible rfl
              rotate_left
              ·simp only [Act.put, qA, qB, qC, i64_w, i32_w]
               rfl
              exact norm_ (by simp only [putAll, Act.put, qA, qB, qC]) (hCont (v468, v471, gb474) _ ⟨hHeld, (rS HO450), (qS HO453), (rS HO459), (sS HO462), (rS HO469), (sS HO472), (kS BK434), (kS BK435), (kS BK455), (kS BK463), (kS BK474), GW474.out, GE474.out, GB474.out, GA474.out, NB434_474.out, NB474_434.out, NB435_474.out, NB474_435.out, NB455_474.out, NB474_455.out, NB463_474.out, NB474_463.out, (wZ HB), (wZ GB), (wZ GA)⟩)
            rintro ⟨v468, v471, gb474⟩ w83 ⟨hS_, h2_, h3_, h4_, h5_, h6_, h7_, h8_, h9_, h10_, h11_, h12_, h13_, h14_, hGB474_, hGA474_, h15_, h16_, h17_, h18_, h19_, h20_, h21_, h22_, h23_, hGB_, hGA_⟩
            replace HO450 : Asd (Kd.R (Kd.int .i64) 3 w83 w.heap.size (fun _ => True) (.slice Ao64 t448.length co64) t448) := ⟨h2_⟩
            replace HO453 : Asd (Kd.Q (Kd.slice 3 (Kd.int .i64)) 55 w83 w.heap.size (fun _ => True) (.slice Ao66 t451.length co66) t451) := ⟨h3_⟩
            replace HO459 : Asd (Kd.R (Kd.int .i64) 3 w83 w.heap.size (fun _ => True) (.slice Ao76 t457.length co76) t457) := ⟨h4_⟩
            replace HO462 : Asd (Kd.S (Kd.slice 3 (Kd.int .i64)) 55 w83 w.heap.size (fun _ => True) (.slice Ao77 t460.length co77) t460) := ⟨h5_⟩
            have HO469 : Asd (Kd.R (Kd.int .i64) 3 w83 w70.heap.size (fun _ => True) v468 t467) := ⟨h6_⟩
            have HO472 : Asd (Kd.S (Kd.slice 3 (Kd.int .i64)) 55 w83 w70.heap.size (fun k_ => some k_ ≠ (v468 : Value).ownBlock) v471 t470) := ⟨h7_⟩
            replace BK434 : Asd (w83.heap[gb434]? = some (.cells #[.int .i64 a0_0, .slice A0_1 l0_1.length c0_1, .slice A0_2 l0_2.length c0_2] 67 (0, 0))) := ⟨h8_⟩
            replace BK435 : Asd (w83.heap[gb435]? = some (.cells #[.int .i64 a1_0, .string a1_1] 23 (0, 0))) := ⟨h9_⟩
            replace BK455 : Asd (w83.heap[gb455]? = some (.cells #[.int .i64 t447, .slice Ao64 t448.length co64, .slice Ao66 t451.length co66] 58 (0, 0))) := ⟨h10_⟩
            replace BK463 : Asd (w83.heap[gb463]? = some (.cells #[.int .i64 t456, .slice Ao76 t457.length co76, .slice Ao77 t460.length co77] 58 (0, 0))) := ⟨h11_⟩
            have BK474 : Asd (w83.heap[gb474]? = some (.cells #[.int .i64 0, .slice none 0 0, .slice none 0 0] 58 (0, 0))) := ⟨h12_⟩
            have GW474 : Asd (w.heap.size ≤ gb474) := ⟨h13_⟩
            have GE474 : Asd (w.heap.size ≤ gb474) := ⟨h14_⟩
            have GB474 : Asd (wb.heap.size ≤ gb474) := ⟨hGB474_⟩
            have GA474 : Asd (w70.heap.size ≤ gb474) := ⟨hGA474_⟩
            have NB434_474 : Asd (gb434 ≠ gb474) := ⟨h15_⟩
            have NB474_434 : Asd (gb474 ≠ gb434) := ⟨h16_⟩
            have NB435_474 : Asd (gb435 ≠ gb474) := ⟨h17_⟩
            have NB474_435 : Asd (gb474 ≠ gb435) := ⟨h18_⟩
            have NB455_474 : Asd (gb455 ≠ gb474) := ⟨h19_⟩
            have NB474_455 : Asd (gb474 ≠ gb455) := ⟨h20_⟩
            have NB463_474 : Asd (gb463 ≠ gb474) := ⟨h21_⟩
            have NB474_463 : Asd (gb474 ≠ gb463) := ⟨h22_⟩
            replace HB : Asd (Below w.heap.size w w83) := ⟨h23_⟩
            replace GB : Asd (Below wb.heap.size wb w83) := ⟨hGB_⟩
            replace GA : Asd (Below w70.heap.size w70 w83) := ⟨hGA_⟩
            clear h2_ h3_ h4_ h5_ h6_ h7_ h8_ h9_ h10_ h11_ h12_ h13_ h14_ hGB474_ hGA474_ h15_ h16_ h17_ h18_ h19_ h20_ h21_ h22_ h23_ hGB_ hGA_
            have hHeld : w83.cell? ⟨gb463, 0, none⟩ = some (.int .i64 t456) ∧ w83.cell? ⟨gb463, 1, none⟩ = some (.slice Ao76 t457.length co76) ∧ w83.cell? ⟨gb463, 2, none⟩ = some (.slice Ao77 t460.length co77) ∧ w83.cell? ⟨gb435, 0, none⟩ = some (.int .i64 a1_0) ∧ w83.cell? ⟨gb435, 1, none⟩ = some (.string a1_1) := hS_
            obtain ⟨Ao85, co85, eo85⟩ := Kd.R_slice HO469.out
            (first | subst eo85 | (injection eo85 with f1_ f2_ f3_; have f4_ := f1_.symm; have f5_ := f3_.symm; clear f1_ f2_ f3_; subst f4_; subst f5_))
            obtain ⟨Ao87, co87, eo87⟩ := Kd.S_slice HO472.out
            (first | subst eo87 | (injection eo87 with f1_ f2_ f3_; have f4_ := f1_.symm; have f5_ := f3_.symm; clear f1_ f2_ f3_; subst f4_; subst f5_))
            refine norm_ (a' := ?_) ?_ ?_
            rotate_left
            ·simp only [putAll, Act.put, qA, qB, qC]
             rfl
            refine one_ (i := 8) (N := none) #[true, true, true, true, true, true, true, true, true, false] rfl rfl (one_of HT_.out (by kernel_rfl)) (by decide) (fun K hK => ?_)
            have hs84 := bC BK474 0
            have hfs84 := bkF BK474.out 0
            have hns84_0 := NB434_474.out
            have hns84_1 := NB435_474.out
            have hns84_2 := NB455_474.out
            have hns84_3 := NB463_474.out
            have hms84_0 := NB474_434.out
            have hms84_1 := NB474_435.out
            have hms84_2 := NB474_455.out
            have hms84_3 := NB474_463.out
            have hs86 := bC BK474 1
            have hfs86 := bkF BK474.out 1
            have hns86_0 := NB434_474.out
            have hns86_1 := NB435_474.out
            have hns86_2 := NB455_474.out
            have hns86_3 := NB463_474.out
            have hms86_0 := NB474_434.out
            have hms86_1 := NB474_435.out
            have hms86_2 := NB474_455.out
            have hms86_3 := NB474_463.out
            have hs88 := bC BK474 2
            have hfs88 := bkF BK474.out 2
            have hns88_0 := NB434_474.out
            have hns88_1 := NB435_474.out
            have hns88_2 := NB455_474.out
            have hns88_3 := NB463_474.out
            have hms88_0 := NB474_434.out
            have hms88_1 := NB474_435.out
            have hms88_2 := NB474_455.out
            have hms88_3 := NB474_463.out
            refine skip_ (w1 := ?_) (by rfl) rfl ?_ ?_
            rotate_left
            ·go_simp
             rfl
            refine hK.out _ _ ⟨((cell_far (p := ⟨gb474, _, none⟩) NB463_474.out _).trans (((cell_far (p := ⟨gb474, _, none⟩) NB463_474.out _).trans (((cell_far (p := ⟨gb474, _, none⟩) NB463_474.out _).trans (hHeld.1)))))), ((cell_far (p := ⟨gb474, _, none⟩) NB463_474.out _).trans (((cell_far (p := ⟨gb474, _, none⟩) NB463_474.out _).trans (((cell_far (p := ⟨gb474, _, none⟩) NB463_474.out _).trans (hHeld.2.1)))))), ((cell_far (p := ⟨gb474, _, none⟩) NB463_474.out _).trans (((cell_far (p := ⟨gb474, _, none⟩) NB463_474.out _).trans (((cell_far (p := ⟨gb474, _, none⟩) NB463_474.out _).trans (hHeld.2.2.1)))))), ((cell_far (p := ⟨gb474, _, none⟩) NB435_474.out _).trans (((cell_far (p := ⟨gb474, _, none⟩) NB435_474.out _).trans (((cell_far (p := ⟨gb474, _, none⟩) NB435_474.out _).trans (hHeld.2.2.2.1)))))), ((cell_far (p := ⟨gb474, _, none⟩) NB435_474.out _).trans (((cell_far (p := ⟨gb474, _, none⟩) NB435_474.out _).trans (((cell_far (p := ⟨gb474, _, none⟩) NB435_474.out _).trans (hHeld.2.2.2.2))))))⟩ (fun hHeld => ?_)
            clear hK K
            refine pure_ (i := 9) (N := some 10) (v := ?_) (a' := ?_) #[true, true, true, true, true, true, true, true, true, true] rfl rfl (any_of HT_.out (by kernel_rfl)) (fun _ _ _ h => h) (Or.inl ⟨by rfl, ?_⟩) ?_ ?_
            rotate_left
            ·intro w'
             go_simp
             with_reducible rfl
            rotate_left
            ·simp only [Act.put, qA, qB, qC, i64_w, i32_w]
             rfl
            refine done_ (done_of HT_.out (by kernel_rfl)) ?_
            have hnb89 := NB474_434.out
            have hnc89 := NB434_474.out
            have hnb90 := NB474_435.out
            have hnc90 := NB435_474.out
            have hnb91 := NB474_455.out
            have hnc91 := NB455_474.out
            have hnb92 := NB474_463.out
            have hnc92 := NB463_474.out
            obtain ⟨hcz93_0, hcz93_1, hcz93_2, hfz93_0, hfz93_1, hfz93_2⟩ := b3 BK474
            have hnb94 := NB455_435.out
            have hnc94 := NB435_455.out
            obtain ⟨hcz95_0, hcz95_1, hcz95_2, hfz95_0, hfz95_1, hfz95_2⟩ := b3 BK455
            try go_wp2_with (first | ((with_reducible refine gate_callee (f := 45) rfl ?_); refine gsM (some 45) rfl rfl Try.func45 (by kernel_rfl) rfl #[.agg #[.int .i64 t466, .slice Ao85 t467.length co85, .slice Ao87 t470.length co87], .agg #[.int .i64 t447, .slice Ao64 t448.length co64, .slice Ao66 t451.length co66]] rfl ?_; (with_reducible refine (laws_eqMind.calls k t466 _ _ t467 _ _ t470 t447 _ _ t448 _ _ t451 true _ ?side1 ?side2 ?side3 ?side4 ?side5 ?side6 ?side7 ?side8 A25.out).mono ?_); (case side1 => refine (Kd.R_reads' (e := 3) (base := w70.heap.size) (ok := fun _ => True) (n := t467.length) (c := co85) ?_).2.2; exact rT HO469); (case side2 => exact (Kd.R_reads' HO469.out).2.1); (case side3 => refine (Kd.S_reads' (e := 55) (base := w70.heap.size) (ok := fun k_ => some k_ ≠ (.slice Ao85 t467.length co85 : Value).ownBlock) (n := t470.length) (c := co87) ?_).2.2; exact sT HO472); (case side4 => exact (Kd.S_reads' HO472.out).2.1); (case side5 => refine (Kd.R_reads' (e := 3) (base := w.heap.size) (ok := fun _ => True) (n := t448.length) (c := co64) ?_).2.2; exact rT HO450); (case side6 => exact (Kd.R_reads' HO450.out).2.1); (case side7 => refine (Kd.Q_reads' (e := 55) (base := w.heap.size) (ok := fun _ => True) (n := t451.length) (c := co66) ?_).2.2; exact qT HO453); (case side8 => exact (Kd.Q_reads' HO453.out).2.1); rintro e w96 ⟨rfl, hb⟩; refine ⟨_, rfl, ?_⟩; replace HO450 := Asd.mk (Kd.R_below (rT HO450) hb); replace HO453 := Asd.mk (Kd.Q_below (qT HO453) hb); replace HO459 := Asd.mk (Kd.R_below (rT HO459) hb); replace HO462 := Asd.mk (Kd.S_below (sT HO462) hb); replace HO469 := Asd.mk (Kd.R_below (rT HO469) hb); replace HO472 := Asd.mk (Kd.S_below (sT HO472) hb); replace BK434 := bU BK434 hb; replace BK435 := bU BK435 hb; replace BK455 := bU BK455 hb; replace BK463 := bU BK463 hb; replace BK474 := bP #[.int .i64 t466, .slice Ao85 t467.length co85, .slice Ao87 t470.length co87] BK474 hb; replace HB := bW HB hb; replace GB := bW GB hb; replace GA := bW GA hb; (try clear hb); (try clear hb2); (try clear hk); (try clear hi)))
            replace HO450 := Asd.mk (Kd.R_drew HO450.out)
            replace HO453 := Asd.mk (Kd.Q_drew HO453.out)
            replace HO459 := Asd.mk (Kd.R_drew HO459.out)
            replace HO462 := Asd.mk (Kd.S_drew HO462.out)
            replace HO469 := Asd.mk (Kd.R_drew HO469.out)
            replace HO472 := Asd.mk (Kd.S_drew HO472.out)
            replace BK434 := Asd.mk (bkD BK434.out)
            replace BK435 := Asd.mk (bkD BK435.out)
            replace BK455 := Asd.mk (bkD BK455.out)
            replace BK463 := Asd.mk (bkD BK463.out)
            replace BK474 := Asd.mk (bkD BK474.out)
            replace HB := Asd.mk (bwD HB.out)
            replace GB := Asd.mk (bwD GB.out)
            replace GA := Asd.mk (bwD GA.out)
            refine start_ (n := 5) (S := fun w' => w'.cell? ⟨gb463, 0, none⟩ = some (.int .i64 t456) ∧ w'.cell? ⟨gb463, 1, none⟩ = some (.slice Ao76 t457.length co76) ∧ w'.cell? ⟨gb463, 2, none⟩ = some (.slice Ao77 t460.length co77) ∧ w'.cell? ⟨gb434, 0, none⟩ = some (.int .i64 a0_0) ∧ w'.cell? ⟨gb434, 1, none⟩ = some (.slice A0_1 l0_1.length c0_1) ∧ w'.cell? ⟨gb434, 2, none⟩ = some (.slice A0_2 l0_2.length c0_2)) (ds := []) #[false, false, false, false, false] (by kernel_rfl) rfl rfl ⟨(bkC BK463.out 0).trans rfl, (bkC BK463.out 1).trans rfl, (bkC BK463.out 2).trans rfl, (bkC BK434.out 0).trans rfl, (bkC BK434.out 1).trans rfl, (bkC BK434.out 2).trans rfl⟩ (fun hHeld => ?_)
            generalize w96.drew = w97 at HO450 HO453 HO459 HO462 HO469 HO472 BK434 BK435 BK455 BK463 BK474 HB GB GA hHeld ⊢
            refine take_ (i := 0) (N := some 52) (v := ?_) (a' := ?_) #[true, false, false, false, false] rfl rfl (by kernel_rfl) (fun _ _ _ h => h) (Or.inl ⟨by rfl, ?_⟩) hHeld ?_ ?_
            rotate_left
            ·rintro w' ⟨s0, s1, s2, s3, s4, s5⟩
             go_simp
             with_reducible rfl
            rotate_left
            ·simp only [Act.put, qA, qB, qC, i64_w, i32_w]
             rfl
            refine take_ (i := 1) (N := some 53) (v := ?_) (a' := ?_) #[true, true, false, false, false] rfl rfl (by kernel_rfl) (fun _ _ _ h => h) (Or.inl ⟨by rfl, ?_⟩) hHeld ?_ ?_
            rotate_left
            ·rintro w' ⟨s0, s1, s2, s3, s4, s5⟩
             go_simp
             with_reducible rfl
            rotate_left
            ·simp only [Act.put, qA, qB, qC, i64_w, i32_w]
             rfl
            refine one_ (i := 2) (N := some 54) #[true, true, true, false, false] rfl rfl (by kernel_rfl) (by decide) (fun K hK => ?_)
            refine goes_ Try.func53 (by kernel_rfl) rfl #[.agg #[.int .i64 a0_0, .slice A0_1 l0_1.length c0_1, .slice A0_2 l0_2.length c0_2]] (by rfl) rfl rfl (by (try simp only [List.map_toArray, List.map_cons, List.map_nil]); first | done | rfl | (simp only [List.length_drop, List.length_take]; rfl)) ?_
            with_reducible refine (laws_toMind.calls k a0_0 _ _ l0_1 _ _ l0_2 t476 t477 t480 _ ?side1 ?side2 ?side3 ?side4 A28.out).mono ?_
            (case side1 => exact cZ (Kd.C_below HR0_1.out HB.out))
            (case side2 => exact HC0_1.out)
            (case side3 => exact cZ (Kd.C_below HR0_2.out HB.out))
            (case side4 => exact HC0_2.out)
            rintro e w98 ⟨v478, v481, rfl, ho0, ho1, hb⟩
            refine ⟨_, rfl, ?_⟩
            have HO479 := Asd.mk (Kd.R_mono (Kd.R_lower ho0 (below_size (wZ HB))) (fun _ _ => trivial))
            have HO482 := Asd.mk (Kd.S_mono (Kd.S_lower ho1 (below_size (wZ HB))) (fun _ _ => trivial))
            replace HO450 := bR HO450 hb
            replace HO453 := bQ HO453 hb
            replace HO459 := bR HO459 hb
            replace HO462 := bS HO462 hb
            replace HO469 := bR HO469 hb
            replace HO472 := bS HO472 hb
            replace BK434 := bU BK434 hb
            replace BK435 := bU BK435 hb
            replace BK455 := bU BK455 hb
            replace BK463 := bU BK463 hb
            replace BK474 := bU BK474 hb
            replace HB := bW HB hb
            replace GB := bW GB hb
            replace GA := bW GA hb
            (try clear hb)
            (try clear hb2)
            (try clear hk)
            (try clear hi)
            (try clear ho0)
            (try clear ho1)
            obtain ⟨Ao99, co99, eo99⟩ := Kd.R_slice HO479.out
            (first | subst eo99 | (injection eo99 with f1_ f2_ f3_; have f4_ := f1_.symm; have f5_ := f3_.symm; clear f1_ f2_ f3_; subst f4_; subst f5_))
            obtain ⟨Ao100, co100, eo100⟩ := Kd.S_slice HO482.out
            (first | subst eo100 | (injection eo100 with f1_ f2_ f3_; have f4_ := f1_.symm; have f5_ := f3_.symm; clear f1_ f2_ f3_; subst f4_; subst f5_))
            refine hK.out _ _ ⟨(bkC BK463.out 0).trans rfl, (bkC BK463.out 1).trans rfl, (bkC BK463.out 2).trans rfl, (bkC BK434.out 0).trans rfl, (bkC BK434.out 1).trans rfl, (bkC BK434.out 2).trans rfl⟩ (fun hHeld => ?_)
            clear hK K
            refine norm_ (a' := ?_) ?_ ?_
            rotate_left
            ·show Act.put _ (some 54) _ = _
             simp only [Act.put, qA, qB, qC, i64_w, i32_w]
             rfl
            refine one_ (i := 3) (N := some 55) #[true, true, true, true, false] rfl rfl (by kernel_rfl) (by decide) (fun K hK => ?_)
            refine goes_ Try.func45 (by kernel_rfl) rfl #[.agg #[.int .i64 t456, .slice Ao76 t457.length co76, .slice Ao77 t460.length co77], .agg #[.int .i64 t476, .slice Ao99 t477.length co99, .slice Ao100 t480.length co100]] (by rfl) rfl rfl (by (try simp only [List.map_toArray, List.map_cons, List.map_nil]); first | done | rfl | (simp only [List.length_drop, List.length_take]; rfl)) ?_
            with_reducible refine (laws_eqMind.calls k t456 _ _ t457 _ _ t460 t476 _ _ t477 _ _ t480 true _ ?side1 ?side2 ?side3 ?side4 ?side5 ?side6 ?side7 ?side8 A29.out).mono ?_
            (case side1 => exact cZ (Kd.R_reads' HO459.out).2.2)
            (case side2 => exact (Kd.R_reads' HO459.out).2.1)
            (case side3 => exact cZ (Kd.S_reads' HO462.out).2.2)
            (case side4 => exact (Kd.S_reads' HO462.out).2.1)
            (case side5 => exact cZ (Kd.R_reads' HO479.out).2.2)
            (case side6 => exact (Kd.R_reads' HO479.out).2.1)
            (case side7 => exact cZ (Kd.S_reads' HO482.out).2.2)
            (case side8 => exact (Kd.S_reads' HO482.out).2.1)
            rintro e w101 ⟨rfl, hb⟩
            refine ⟨_, rfl, ?_⟩
            replace HO450 := bR HO450 hb
            replace HO453 := bQ HO453 hb
            replace HO459 := bR HO459 hb
            replace HO462 := bS HO462 hb
            replace HO469 := bR HO469 hb
            replace HO472 := bS HO472 hb
            replace BK434 := bU BK434 hb
            replace BK435 := bU BK435 hb
            replace BK455 := bU BK455 hb
            replace BK463 := bU BK463 hb
            replace BK474 := bU BK474 hb
            replace HB := bW HB hb
            replace GB := bW GB hb
            replace GA := bW GA hb
            (try clear hb)
            (try clear hb2)
            (try clear hk)
            (try clear hi)
            refine hK.out _ _ ⟨(bkC BK463.out 0).trans rfl, (bkC BK463.out 1).trans rfl, (bkC BK463.out 2).trans rfl, (bkC BK434.out 0).trans rfl, (bkC BK434.out 1).trans rfl, (bkC BK434.out 2).trans rfl⟩ (fun hHeld => ?_)
            clear hK K
            refine norm_ (a' := ?_) ?_ ?_
            rotate_left
            ·show Act.put _ (some 55) _ = _
             simp only [Act.put, qA, qB, qC, i64_w, i32_w]
             rfl
            refine pure_ (i := 4) (N := some 56) (v := ?_) (a' := ?_) #[true, true, true, true, true] rfl rfl (by kernel_rfl) (fun _ _ _ h => h) (Or.inl ⟨by rfl, ?_⟩) ?_ ?_
            rotate_left
            ·intro w'
             go_simp
             with_reducible rfl
            rotate_left
            ·simp only [Act.put, qA, qB, qC, i64_w, i32_w]
             rfl
            refine done_ (by kernel_rfl) ?_
            obtain ⟨hcz102_0, hcz102_1, hcz102_2, hfz102_0, hfz102_1, hfz102_2⟩ := b3 BK463
            try go_wp2_with (first | ((with_reducible refine gate_callee (f := 48) rfl ?_); refine gsM (some 59) rfl rfl Try.func48 (by kernel_rfl) rfl #[.agg #[.int .i64 t456, .slice Ao76 t457.length co76, .slice Ao77 t460.length co77], .int .i64 1] rfl ?_; (with_reducible refine (laws_markMind.calls k t456 (fun k_ => some k_ = (.slice Ao76 t457.length co76 : Value).ownBlock ∧ wb.heap.size ≤ k_ ∧ k_ < w70.heap.size) (fun k_ => some k_ ≠ (.slice Ao76 t457.length co76 : Value).ownBlock ∧ wb.heap.size ≤ k_ ∧ k_ < w70.heap.size) (.slice Ao76 t457.length co76) (.slice Ao77 t460.length co77) t457 t460 1 t484 t485 t485p wb _ ?side1 ?side2 ?side3 ?side4 A31.out).mono ?_); (case side1 => exact wZ GB); (case side2 => exact (mk1 HX1 HX2 (wZ GA)).1); (case side3 => exact (mk1 HX1 HX2 (wZ GA)).2); (case side4 => exact fun _ h2 h1 => h2.1 h1.1); rintro e w103 ⟨rfl, hy0, hy1, hb, hkp⟩; refine ⟨_, rfl, ?_⟩; replace BK434 := Asd.mk (bkB BN434.out hb); replace BK435 := Asd.mk (bkB BN435.out hb); replace BK455 := Asd.mk (bkB BN455.out hb); replace HO450 := Asd.mk (Kd.R_below HN450.out hb); replace HO453 := Asd.mk (Kd.Q_below HN453.out hb); replace BK463 := Asd.mk (blk_kept (kS BK463) hkp (fun hs_ => Nat.not_lt.2 GA463.out (hs_.elim (fun q => q.2.2) (fun q => q.2.2)))); replace BK474 := Asd.mk (blk_kept (kS BK474) hkp (fun hs_ => Nat.not_lt.2 GA474.out (hs_.elim (fun q => q.2.2) (fun q => q.2.2)))); replace HO469 := Asd.mk (Kd.R_mono (Kd.R_kept (Kd.R_bound (rS HO469)) hkp (fun _ ho_ hs_ => Nat.not_lt.2 ho_.2.1 (hs_.elim (fun q => q.2.2) (fun q => q.2.2)))) (fun _ _ => trivial)); replace HO472 := Asd.mk (Kd.S_mono (Kd.S_kept (Kd.S_bound (sS HO472)) hkp (fun _ ho_ hs_ => Nat.not_lt.2 ho_.2.1 (hs_.elim (fun q => q.2.2) (fun q => q.2.2)))) (fun _ h_ => h_.1)); replace HB := Asd.mk (bwP GW.out hb); replace GB := Asd.mk hb; clear GA; clear hb hkp hy0 hy1; obtain ⟨hcz104_0, hcz104_1, hcz104_2, hfz104_0, hfz104_1, hfz104_2⟩ := b3 BK474; obtain ⟨hcz105_0, hcz105_1, hcz105_2, hfz105_0, hfz105_1, hfz105_2⟩ := b3 BK455) | (go_at_call 45; (with_reducible refine (laws_eqMind.calls k t466 _ _ t467 _ _ t470 t447 _ _ t448 _ _ t451 true _ ?side1 ?side2 ?side3 ?side4 ?side5 ?side6 ?side7 ?side8 A33.out).mono ?_); (case side1 => exact cZ (Kd.R_reads' HO469.out).2.2); (case side2 => exact (Kd.R_reads' HO469.out).2.1); (case side3 => exact cZ (Kd.S_reads' HO472.out).2.2); (case side4 => exact (Kd.S_reads' HO472.out).2.1); (case side5 => exact cZ (Kd.R_reads' HO450.out).2.2); (case side6 => exact (Kd.R_reads' HO450.out).2.1); (case side7 => exact cZ (Kd.Q_reads' HO453.out).2.2); (case side8 => exact (Kd.Q_reads' HO453.out).2.1); rintro e w106 ⟨rfl, hb⟩; replace HO450 := bR HO450 hb; replace HO453 := bQ HO453 hb; replace HO469 := bR HO469 hb; replace HO472 := bS HO472 hb; replace BK434 := bU BK434 hb; replace BK435 := bU BK435 hb; replace BK455 := bU BK455 hb; replace BK463 := bU BK463 hb; replace BK474 := bU BK474 hb; replace HB := bW HB hb; replace GB := bW GB hb; (try clear hb); (try clear hb2); (try clear hk); (try clear hi); obtain ⟨hcz107_0, hcz107_1, hcz107_2, hfz107_0, hfz107_1, hfz107_2⟩ := b3 BK474) | ((with_reducible refine gate_callee (f := 48) rfl ?_); refine gsM (some 75) rfl rfl Try.func48 (by kernel_rfl) rfl #[.agg #[.int .i64 t466, .slice Ao85 t467.length co85, .slice Ao87 t470.length co87], .int .i64 1] rfl ?_; (with_reducible refine (laws_markMind.calls k t466 (fun k_ => some k_ = (.slice Ao85 t467.length co85 : Value).ownBlock ∧ w70.heap.size ≤ k_ ∧ k_ ≠ gb463 ∧ k_ ≠ gb474) (fun k_ => some k_ ≠ (.slice Ao85 t467.length co85 : Value).ownBlock ∧ w70.heap.size ≤ k_ ∧ k_ ≠ gb463 ∧ k_ ≠ gb474) (.slice Ao85 t467.length co85) (.slice Ao87 t470.length co87) t467 t470 1 t487 t488 t488p wb _ ?side1 ?side2 ?side3 ?side4 A35.out).mono ?_); (case side1 => exact wZ GB); (case side2 => exact (mk2 (rS HO469) (sS HO472) GAB.out (kS BK463) (kS BK474) (by decide) (by decide)).1); (case side3 => exact (mk2 (rS HO469) (sS HO472) GAB.out (kS BK463) (kS BK474) (by decide) (by decide)).2); (case side4 => exact fun _ h2 h1 => h2.1 h1.1); rintro e w108 ⟨rfl, hy0, hy1, hb, hkp⟩; refine ⟨_, rfl, ?_⟩; replace BK434 := Asd.mk (bkB BN434.out hb); replace BK435 := Asd.mk (bkB BN435.out hb); replace BK455 := Asd.mk (bkB BN455.out hb); replace HO450 := Asd.mk (Kd.R_below HN450.out hb); replace HO453 := Asd.mk (Kd.Q_below HN453.out hb); replace BK463 := Asd.mk (blk_kept (kS BK463) hkp (fun hs_ => hs_.elim (fun q => q.2.2.1 rfl) (fun q => q.2.2.1 rfl))); replace BK474 := Asd.mk (blk_kept (kS BK474) hkp (fun hs_ => hs_.elim (fun q => q.2.2.2 rfl) (fun q => q.2.2.2 rfl))); replace HO469 := Asd.mk (Kd.R_mono (Kd.R_lower hy0 (below_size GW.out)) (fun _ _ => trivial)); replace HO472 := Asd.mk (Kd.S_mono (Kd.S_lower hy1 (below_size GW.out)) (fun _ _ => trivial)); replace HB := Asd.mk (bwP GW.out hb); clear GB; clear hb hkp hy0 hy1; obtain ⟨hcz109_0, hcz109_1, hcz109_2, hfz109_0, hfz109_1, hfz109_2⟩ := b3 BK474) | ((with_reducible refine gate_callee (f := 49) rfl ?_); refine gsL (some 78) rfl rfl Try.func49 (by kernel_rfl) rfl #[.agg #[.int .i64 t466, .slice Ao85 t488.length co85, .slice Ao87 t488p.length co87], .int .i64 1] rfl (by (try simp only [List.map_toArray, List.map_cons, List.map_nil]); first | done | (rw [show t488.length = t467.length from (Kd.R_reads' HO469.out).1.symm, show t488p.length = t470.length from (Kd.S_reads' HO472.out).1.symm] <;> rfl) | rfl | (simp only [List.length_drop, List.length_take]; rfl)) ?_; (with_reducible refine (laws_heldMind.calls k t466 _ _ t488 _ _ t488p 1 t489 _ ?side1 ?side2 ?side3 ?side4 A36.out).mono ?_); (case side1 => exact cZ (Kd.R_reads' HO469.out).2.2); (case side2 => rw [show t488.length = t467.length from (Kd.R_reads' HO469.out).1.symm]; exact (Kd.R_reads' HO469.out).2.1); (case side3 => exact cZ (Kd.S_reads' HO472.out).2.2); (case side4 => rw [show t488p.length = t470.length from (Kd.S_reads' HO472.out).1.symm]; exact (Kd.S_reads' HO472.out).2.1); rintro e w110 ⟨rfl, hb⟩; refine ⟨_, rfl, ?_⟩; replace HO450 := bR HO450 hb; replace HO453 := bQ HO453 hb; replace HO469 := bR HO469 hb; replace HO472 := bS HO472 hb; replace BK434 := bU BK434 hb; replace BK435 := bU BK435 hb; replace BK455 := bU BK455 hb; replace BK463 := bU BK463 hb; replace BK474 := bU BK474 hb; replace HB := bW HB hb; (try clear hb); (try clear hb2); (try clear hk); (try clear hi)))
            replace HO450 := Asd.mk (Kd.R_drew HO450.out)
            replace HO453 := Asd.mk (Kd.Q_drew HO453.out)
            replace HO469 := Asd.mk (Kd.R_drew HO469.out)
            replace HO472 := Asd.mk (Kd.S_drew HO472.out)
            replace BK434 := Asd.mk (bkD BK434.out)
            replace BK435 := Asd.mk (bkD BK435.out)
            replace BK455 := Asd.mk (bkD BK455.out)
            replace BK463 := Asd.mk (bkD BK463.out)
            replace BK474 := Asd.mk (bkD BK474.out)
            replace HB := Asd.mk (bwD HB.out)
            refine start_ (n := 11) (S := fun w' => w'.cell? ⟨gb434, 0, none⟩ = some (.int .i64 a0_0) ∧ w'.cell? ⟨gb434, 1, none⟩ = some (.slice A0_1 l0_1.length c0_1) ∧ w'.cell? ⟨gb434, 2, none⟩ = some (.slice A0_2 l0_2.length c0_2) ∧ w'.cell? ⟨gb435, 0, none⟩ = some (.int .i64 a1_0) ∧ w'.cell? ⟨gb435, 1, none⟩ = some (.string a1_1)) (ds := []) Mk17_0 (by kernel_rfl) rfl rfl ⟨(bkC BK434.out 0).trans rfl, (bkC BK434.out 1).trans rfl, (bkC BK434.out 2).trans rfl, (bkC BK435.out 0).trans rfl, (bkC BK435.out 1).trans rfl⟩ (fun hHeld => ?_); refine with_tabW laws_FnExactMindDo.tab27 laws_FnExactMindDo.bits27 (fun HT_ HW_ => ?_)
            generalize w110.drew = w111 at HO450 HO453 HO469 HO472 BK434 BK435 BK455 BK463 BK474 HB hHeld ⊢
            refine take_ (i := 0) (N := some 85) (v := ?_) (a' := ?_) Mk17_1 rfl rfl (take_ofW HT_.out HW_.out (by kernel_rfl)) (fun _ _ _ h => h) (Or.inl ⟨by rfl, ?_⟩) hHeld ?_ ?_
            rotate_left
            ·rintro w' ⟨s0, s1, s2, s3, s4⟩
             go_simp
             with_reducible rfl
            rotate_left
            ·simp only [Act.put, qA, qB, qC, i64_w, i32_w]
             rfl
            refine take_ (i := 2) (N := some 87) (v := ?_) (a' := ?_) Mk17_2 rfl rfl (take_ofW HT_.out HW_.out (by kernel_rfl)) (fun _ _ _ h => h) (Or.inl ⟨by rfl, ?_⟩) hHeld ?_ ?_
            rotate_left
            ·rintro w' ⟨s0, s1, s2, s3, s4⟩
             go_simp
             with_reducible rfl
            rotate_left
            ·simp only [Act.put, qA, qB, qC, i64_w, i32_w]
             rfl
            refine join_ (σ := Value × Value × Value × Value × Nat) 2 Mk17_20 (fun s_ => [(86, .agg #[.int .i64 t490, s_.1, s_.2.1]), (88, .agg #[.int .i64 t497, .string t498]), (89, .tuple #[.agg #[.int .i64 t499, s_.2.2.1, s_.2.2.2.1], .bool t506]), (14, .pointer (some ⟨s_.2.2.2.2, 0, none⟩)), (84, .tuple #[.agg #[.int .i64 t499, s_.2.2.1, s_.2.2.2.1], .bool t506]), (90, .agg #[.int .i64 t499, s_.2.2.1, s_.2.2.2.1]), (91, .bool t506)]) (fun s_ w' => (w'.cell? ⟨gb434, 0, none⟩ = some (.int .i64 a0_0) ∧ w'.cell? ⟨gb434, 1, none⟩ = some (.slice A0_1 l0_1.length c0_1) ∧ w'.cell? ⟨gb434, 2, none⟩ = some (.slice A0_2 l0_2.length c0_2) ∧ w'.cell? ⟨gb435, 0, none⟩ = some (.int .i64 a1_0) ∧ w'.cell? ⟨gb435, 1, none⟩ = some (.string a1_1)) ∧ (Kd.R (Kd.int .i64) 3 w' w.heap.size (fun _ => True) (.slice Ao64 t448.length co64) t448) ∧ (Kd.Q (Kd.slice 3 (Kd.int .i64)) 55 w' w.heap.size (fun _ => True) (.slice Ao66 t451.length co66) t451) ∧ (Kd.R (Kd.int .i64) 3 w' w.heap.size (fun _ => True) (.slice Ao85 t467.length co85) t488) ∧ (Kd.S (Kd.slice 3 (Kd.int .i64)) 55 w' w.heap.size (fun _ => True) (.slice Ao87 t470.length co87) t488p) ∧ (Kd.R (Kd.int .i64) 3 w' w.heap.size (fun _ => True) s_.2.2.1 t500) ∧ (Kd.S (Kd.slice 3 (Kd.int .i64)) 55 w' w.heap.size (fun _ => True) s_.2.2.2.1 t503) ∧ (w'.heap[gb434]? = some (.cells #[.int .i64 a0_0, .slice A0_1 l0_1.length c0_1, .slice A0_2 l0_2.length c0_2] 67 (0, 0))) ∧ (w'.heap[gb435]? = some (.cells #[.int .i64 a1_0, .string a1_1] 23 (0, 0))) ∧ (w'.heap[gb455]? = some (.cells #[.int .i64 t447, .slice Ao64 t448.length co64, .slice Ao66 t451.length co66] 58 (0, 0))) ∧ (w'.heap[gb463]? = some (.cells #[.int .i64 t456, .slice Ao76 t457.length co76, .slice Ao77 t460.length co77] 58 (0, 0))) ∧ (w'.heap[gb474]? = some (.cells #[.int .i64 t466, .slice Ao85 t467.length co85, .slice Ao87 t470.length co87] 58 (0, 0))) ∧ (w'.heap[s_.2.2.2.2]? = some (.cells #[.int .i64 0, .slice none 0 0, .slice none 0 0] 58 (0, 0))) ∧ (w.heap.size ≤ s_.2.2.2.2) ∧ (w.heap.size ≤ s_.2.2.2.2) ∧ (gb434 ≠ s_.2.2.2.2) ∧ (s_.2.2.2.2 ≠ gb434) ∧ (gb435 ≠ s_.2.2.2.2) ∧ (s_.2.2.2.2 ≠ gb435) ∧ (gb455 ≠ s_.2.2.2.2) ∧ (s_.2.2.2.2 ≠ gb455) ∧ (gb463 ≠ s_.2.2.2.2) ∧ (s_.2.2.2.2 ≠ gb463) ∧ (gb474 ≠ s_.2.2.2.2) ∧ (s_.2.2.2.2 ≠ gb474) ∧ (Below w.heap.size w w')) ?_ ?_
            rotate_left
            ·intro hCont
             refine two_ (i := 1) (j := 8) (Ni := some 86) (Nj := some 14) Mk17_4 Mk17_3 rfl rfl rfl rfl (two_of HT_.out (by kernel_rfl)) (by decide) (by decide) (fun K hK => ?_) (fun K hK => ?_)
             ·skip
              refine goes_ Try.func53 (by kernel_rfl) rfl #[.agg #[.int .i64 a0_0, .slice A0_1 l0_1.length c0_1, .slice A0_2 l0_2.length c0_2]] (by rfl) rfl rfl (by (try simp only [List.map_toArray, List.map_cons, List.map_nil]); first | done | rfl | (simp only [List.length_drop, List.length_take]; rfl)) ?_
              with_reducible refine (laws_toMind.calls k a0_0 _ _ l0_1 _ _ l0_2 t490 t491 t494 _ ?side1 ?side2 ?side3 ?side4 A39.out).mono ?_
              (case side1 => exact cZ (Kd.C_below HR0_1.out HB.out))
              (case side2 => exact HC0_1.out)
              (case side3 => exact cZ (Kd.C_below HR0_2.out HB.out))
              (case side4 => exact HC0_2.out)
              rintro e w112 ⟨v492, v495, rfl, ho0, ho1, hb⟩
              refine ⟨_, rfl, ?_⟩
              have HO493 := Asd.mk (Kd.R_mono (Kd.R_lower ho0 (below_size (wZ HB))) (fun _ _ => trivial))
              have HO496 := Asd.mk (Kd.S_mono (Kd.S_lower ho1 (below_size (wZ HB))) (fun _ _ => trivial))
              replace HO450 := bR HO450 hb
              replace HO453 := bQ HO453 hb
              replace HO469 := bR HO469 hb
              replace HO472 := bS HO472 hb
              replace BK434 := bU BK434 hb
              replace BK435 := bU BK435 hb
              replace BK455 := bU BK455 hb
              replace BK463 := bU BK463 hb
              replace BK474 := bU BK474 hb
              replace HB := bW HB hb
              (try clear hb)
              (try clear hb2)
              (try clear hk)
              (try clear hi)
              (try clear ho0)
              (try clear ho1)
              refine hK.out _ _ ⟨(bkC BK434.out 0).trans rfl, (bkC BK434.out 1).trans rfl, (bkC BK434.out 2).trans rfl, (bkC BK435.out 0).trans rfl, (bkC BK435.out 1).trans rfl⟩ (fun hHeld => ?_)
              clear hK K
              refine norm_ (a' := ?_) ?_ ?_
              rotate_left
              ·show Act.put _ (some 86) _ = _
               simp only [Act.put, qA, qB, qC, i64_w, i32_w]
               rfl
              refine two_ (i := 3) (j := 8) (Ni := some 88) (Nj := some 14) Mk17_7 Mk17_5 rfl rfl rfl rfl (two_of HT_.out (by kernel_rfl)) (by decide) (by decide) (fun K hK => ?_) (fun K hK => ?_)
              ·skip
               refine goes_ Try.func21 (by kernel_rfl) rfl #[.agg #[.int .i64 a1_0, .string a1_1]] (by rfl) rfl rfl (by (try simp only [List.map_toArray, List.map_cons, List.map_nil]); first | done | rfl | (simp only [List.length_drop, List.length_take]; rfl)) ?_
               with_reducible refine (laws_toDeed.calls a1_0 a1_1 t497 t498 _ A40.out).mono ?_
               rintro e w113 ⟨rfl, hb⟩
               refine ⟨_, rfl, ?_⟩
               replace HO450 := bR HO450 hb
               replace HO453 := bQ HO453 hb
               replace HO469 := bR HO469 hb
               replace HO472 := bS HO472 hb
               replace HO493 := bR HO493 hb
               replace HO496 := bS HO496 hb
               replace BK434 := bU BK434 hb
               replace BK435 := bU BK435 hb
               replace BK455 := bU BK455 hb
               replace BK463 := bU BK463 hb
               replace BK474 := bU BK474 hb
               replace HB := bW HB hb
               (try clear hb)
               (try clear hb2)
               (try clear hk)
               (try clear hi)
               obtain ⟨Ao114, co114, eo114⟩ := Kd.R_slice HO493.out
               (first | subst eo114 | (injection eo114 with f1_ f2_ f3_; have f4_ := f1_.symm; have f5_ := f3_.symm; clear f1_ f2_ f3_; subst f4_; subst f5_))
               obtain ⟨Ao115, co115, eo115⟩ := Kd.S_slice HO496.out
               (first | subst eo115 | (injection eo115 with f1_ f2_ f3_; have f4_ := f1_.symm; have f5_ := f3_.symm; clear f1_ f2_ f3_; subst f4_; subst f5_))
               refine hK.out _ _ ⟨(bkC BK434.out 0).trans rfl, (bkC BK434.out 1).trans rfl, (bkC BK434.out 2).trans rfl, (bkC BK435.out 0).trans rfl, (bkC BK435.out 1).trans rfl⟩ (fun hHeld => ?_)
               clear hK K
               refine norm_ (a' := ?_) ?_ ?_
               rotate_left
               ·show Act.put _ (some 88) _ = _
                simp only [Act.put, qA, qB, qC, i64_w, i32_w]
                rfl
               refine two_ (i := 4) (j := 8) (Ni := some 89) (Nj := some 14) Mk17_10 Mk17_8 rfl rfl rfl rfl (two_of HT_.out (by kernel_rfl)) (by decide) (by decide) (fun K hK => ?_) (fun K hK => ?_)
               ·skip
                refine goes_ Try.func64 (by kernel_rfl) rfl #[.agg #[.int .i64 t490, .slice Ao114 t491.length co114, .slice Ao115 t494.length co115], .agg #[.int .i64 t497, .string t498]] (by rfl) rfl rfl (by (try simp only [List.map_toArray, List.map_cons, List.map_nil]); first | done | rfl | (simp only [List.length_drop, List.length_take]; rfl)) ?_
                with_reducible refine (impl_MindDo.calls k t490 _ _ t491 _ _ t494 t497 t498 t499 t500 t503 t506 _ ?side1 ?side2 ?side3 ?side4 A41.out).mono ?_
                (case side1 => exact cZ (Kd.R_reads' HO493.out).2.2)
                (case side2 => exact (Kd.R_reads' HO493.out).2.1)
                (case side3 => exact cZ (Kd.S_reads' HO496.out).2.2)
                (case side4 => exact (Kd.S_reads' HO496.out).2.1)
                rintro e w116 ⟨v501, v504, rfl, ho0, ho1, hb⟩
                refine ⟨_, rfl, ?_⟩
                have HO502 := Asd.mk (Kd.R_mono (Kd.R_lower ho0 (below_size (wZ HB))) (fun _ _ => trivial))
                have HO505 := Asd.mk (Kd.S_mono (Kd.S_lower ho1 (below_size (wZ HB))) (fun _ _ => trivial))
                replace HO450 := bR HO450 hb
                replace HO453 := bQ HO453 hb
                replace HO469 := bR HO469 hb
                replace HO472 := bS HO472 hb
                replace HO493 := bR HO493 hb
                replace HO496 := bS HO496 hb
                replace BK434 := bU BK434 hb
                replace BK435 := bU BK435 hb
                replace BK455 := bU BK455 hb
                replace BK463 := bU BK463 hb
                replace BK474 := bU BK474 hb
                replace HB := bW HB hb
                (try clear hb)
                (try clear hb2)
                (try clear hk)
                (try clear hi)
                (try clear ho0)
                (try clear ho1)
                refine hK.out _ _ ⟨(bkC BK434.out 0).trans rfl, (bkC BK434.out 1).trans rfl, (bkC BK434.out 2).trans rfl, (bkC BK435.out 0).trans rfl, (bkC BK435.out 1).trans rfl⟩ (fun hHeld => ?_)
                clear hK K
                refine norm_ (a' := ?_) ?_ ?_
                rotate_left
                ·show Act.put _ (some 89) _ = _
                 simp only [Act.put, qA, qB, qC, i64_w, i32_w]
                 rfl
                refine pure_ (i := 5) (N := some 84) (v := ?_) (a' := ?_) Mk17_13 rfl rfl (any_of HT_.out (by kernel_rfl)) (fun _ _ _ h => h) (Or.inl ⟨by rfl, ?_⟩) ?_ ?_
                rotate_left
                ·intro w'
                 go_simp
                 with_reducible rfl
                rotate_left
                ·simp only [Act.put, qA, qB, qC, i64_w, i32_w]
                 rfl
                refine pure_ (i := 6) (N := some 90) (v := ?_) (a' := ?_) Mk17_16 rfl rfl (any_of HT_.out (by kernel_rfl)) (fun _ _ _ h => h) (Or.inl ⟨by rfl, ?_⟩) ?_ ?_
                rotate_left
                ·intro w'
                 go_simp
                 with_reducible rfl
                rotate_left
                ·simp only [Act.put, qA, qB, qC, i64_w, i32_w]
                 rfl
                refine pure_ (i := 7) (N := some 91) (v := ?_) (a' := ?_) Mk17_18 rfl rfl (any_of HT_.out (by kernel_rfl)) (fun _ _ _ h => h) (Or.inl ⟨by rfl, ?_⟩) ?_ ?_
                rotate_left
                ·intro w'
                 go_simp
                 with_reducible rfl
                rotate_left
                ·simp only [Act.put, qA, qB, qC, i64_w, i32_w]
                 rfl
                refine one_ (i := 8) (N := some 14) Mk17_20 rfl rfl (one_of HT_.out (by kernel_rfl)) (by decide) (fun K hK => ?_)
                refine box_step ?hg (N := 14) ?hd (cs := #[.int .i64 0, .slice none 0 0, .slice none 0 0]) (t := 58) ?hr ?_; (case hd => rfl); (case hg => rfl); (case hr => first | (go_simp; done) | (go_simp; rfl))
                intro gb507 hg w117 hbox hb
                replace HO450 := bR HO450 hb
                replace HO453 := bQ HO453 hb
                replace HO469 := bR HO469 hb
                replace HO472 := bS HO472 hb
                replace HO493 := bR HO493 hb
                replace HO496 := bS HO496 hb
                replace HO502 := bR HO502 hb
                replace HO505 := bS HO505 hb
                have BK507 := Asd.mk (hbox)
                have GW507 := bG HB hg
                have GE507 := bG HB hg
                replace HB := bW HB hb
                have NB434_507 := bL BK434 hg
                have NB507_434 := bM BK434 hg
                replace BK434 := bU BK434 hb
                have NB435_507 := bL BK435 hg
                have NB507_435 := bM BK435 hg
                replace BK435 := bU BK435 hb
                have NB455_507 := bL BK455 hg
                have NB507_455 := bM BK455 hg
                replace BK455 := bU BK455 hb
                have NB463_507 := bL BK463 hg
                have NB507_463 := bM BK463 hg
                replace BK463 := bU BK463 hb
                have NB474_507 := bL BK474 hg
                have NB507_474 := bM BK474 hg
                replace BK474 := bU BK474 hb
                clear hb hbox hg
                refine hK.out _ _ ⟨(bkC BK434.out 0).trans rfl, (bkC BK434.out 1).trans rfl, (bkC BK434.out 2).trans rfl, (bkC BK435.out 0).trans rfl, (bkC BK435.out 1).trans rfl⟩ (fun hHeld => ?_)
                clear hK K
                refine norm_ (a' := ?_) ?_ ?_
                rotate_left
                ·show Act.put _ (some 14) _ = _
                 simp only [Act.put, qA, qB, qC, i64_w, i32_w]
                 rfl
                exact norm_ (by simp only [putAll, Act.put, qA, qB, qC]) (hCont (.slice Ao114 t491.length co114, .slice Ao115 t494.length co115, v501, v504, gb507) _ ⟨hHeld, (rS HO450), (qS HO453), (rS HO469), (sS HO472), (rS HO502), (sS HO505), (kS BK434), (kS BK435), (kS BK455), (kS BK463), (kS BK474), (kS BK507), GW507.out, GE507.out, NB434_507.out, NB507_434.out, NB435_507.out, NB507_435.out, NB455_507.out, NB507_455.out, NB463_507.out, NB507_463.out, NB474_507.out, NB507_474.out, (wZ HB)⟩)
               ·skip
                refine box_step ?hg (N := 14) ?hd (cs := #[.int .i64 0, .slice none 0 0, .slice none 0 0]) (t := 58) ?hr ?_; (case hd => rfl); (case hg => rfl); (case hr => first | (go_simp; done) | (go_simp; rfl))
                intro gb507 hg w114 hbox hb
                replace HO450 := bR HO450 hb
                replace HO453 := bQ HO453 hb
                replace HO469 := bR HO469 hb
                replace HO472 := bS HO472 hb
                replace HO493 := bR HO493 hb
                replace HO496 := bS HO496 hb
                have BK507 := Asd.mk (hbox)
                have GW507 := bG HB hg
                have GE507 := bG HB hg
                replace HB := bW HB hb
                have NB434_507 := bL BK434 hg
                have NB507_434 := bM BK434 hg
                replace BK434 := bU BK434 hb
                have NB435_507 := bL BK435 hg
                have NB507_435 := bM BK435 hg
                replace BK435 := bU BK435 hb
                have NB455_507 := bL BK455 hg
                have NB507_455 := bM BK455 hg
                replace BK455 := bU BK455 hb
                have NB463_507 := bL BK463 hg
                have NB507_463 := bM BK463 hg
                replace BK463 := bU BK463 hb
                have NB474_507 := bL BK474 hg
                have NB507_474 := bM BK474 hg
                replace BK474 := bU BK474 hb
                clear hb hbox hg
                obtain ⟨Ao115, co115, eo115⟩ := Kd.R_slice HO493.out
                (first | subst eo115 | (injection eo115 with f1_ f2_ f3_; have f4_ := f1_.symm; have f5_ := f3_.symm; clear f1_ f2_ f3_; subst f4_; subst f5_))
                obtain ⟨Ao116, co116, eo116⟩ := Kd.S_slice HO496.out
                (first | subst eo116 | (injection eo116 with f1_ f2_ f3_; have f4_ := f1_.symm; have f5_ := f3_.symm; clear f1_ f2_ f3_; subst f4_; subst f5_))
                refine hK.out _ _ ⟨(bkC BK434.out 0).trans rfl, (bkC BK434.out 1).trans rfl, (bkC BK434.out 2).trans rfl, (bkC BK435.out 0).trans rfl, (bkC BK435.out 1).trans rfl⟩ (fun hHeld => ?_)
                clear hK K
                refine norm_ (a' := ?_) ?_ ?_
                rotate_left
                ·show Act.put _ (some 14) _ = _
                 simp only [Act.put, qA, qB, qC, i64_w, i32_w]
                 rfl
                refine one_ (i := 4) (N := some 89) Mk17_11 rfl rfl (one_of HT_.out (by kernel_rfl)) (by decide) (fun K hK => ?_)
                refine goes_ Try.func64 (by kernel_rfl) rfl #[.agg #[.int .i64 t490, .slice Ao115 t491.length co115, .slice Ao116 t494.length co116], .agg #[.int .i64 t497, .string t498]] (by rfl) rfl rfl (by (try simp only [List.map_toArray, List.map_cons, List.map_nil]); first | done | rfl | (simp only [List.length_drop, List.length_take]; rfl)) ?_
                with_reducible refine (impl_MindDo.calls k t490 _ _ t491 _ _ t494 t497 t498 t499 t500 t503 t506 _ ?side1 ?side2 ?side3 ?side4 A41.out).mono ?_
                (case side1 => exact cZ (Kd.R_reads' HO493.out).2.2)
                (case side2 => exact (Kd.R_reads' HO493.out).2.1)
                (case side3 => exact cZ (Kd.S_reads' HO496.out).2.2)
                (case side4 => exact (Kd.S_reads' HO496.out).2.1)
                rintro e w117 ⟨v501, v504, rfl, ho0, ho1, hb⟩
                refine ⟨_, rfl, ?_⟩
                have HO502 := Asd.mk (Kd.R_mono (Kd.R_lower ho0 (below_size (wZ HB))) (fun _ _ => trivial))
                have HO505 := Asd.mk (Kd.S_mono (Kd.S_lower ho1 (below_size (wZ HB))) (fun _ _ => trivial))
                replace HO450 := bR HO450 hb
                replace HO453 := bQ HO453 hb
                replace HO469 := bR HO469 hb
                replace HO472 := bS HO472 hb
                replace HO493 := bR HO493 hb
                replace HO496 := bS HO496 hb
                replace BK434 := bU BK434 hb
                replace BK435 := bU BK435 hb
                replace BK455 := bU BK455 hb
                replace BK463 := bU BK463 hb
                replace BK474 := bU BK474 hb
                replace BK507 := bU BK507 hb
                replace HB := bW HB hb
                (try clear hb)
                (try clear hb2)
                (try clear hk)
                (try clear hi)
                (try clear ho0)
                (try clear ho1)
                refine hK.out _ _ ⟨(bkC BK434.out 0).trans rfl, (bkC BK434.out 1).trans rfl, (bkC BK434.out 2).trans rfl, (bkC BK435.out 0).trans rfl, (bkC BK435.out 1).trans rfl⟩ (fun hHeld => ?_)
                clear hK K
                refine norm_ (a' := ?_) ?_ ?_
                rotate_left
                ·show Act.put _ (some 89) _ = _
                 simp only [Act.put, qA, qB, qC, i64_w, i32_w]
                 rfl
                refine pure_ (i := 5) (N := some 84) (v := ?_) (a' := ?_) Mk17_14 rfl rfl (any_of HT_.out (by kernel_rfl)) (fun _ _ _ h => h) (Or.inl ⟨by rfl, ?_⟩) ?_ ?_
                rotate_left
                ·intro w'
                 go_simp
                 with_reducible rfl
                rotate_left
                ·simp only [Act.put, qA, qB, qC, i64_w, i32_w]
                 rfl
                refine pure_ (i := 6) (N := some 90) (v := ?_) (a' := ?_) Mk17_17 rfl rfl (any_of HT_.out (by kernel_rfl)) (fun _ _ _ h => h) (Or.inl ⟨by rfl, ?_⟩) ?_ ?_
                rotate_left
                ·intro w'
                 go_simp
                 with_reducible rfl
                rotate_left
                ·simp only [Act.put, qA, qB, qC, i64_w, i32_w]
                 rfl
                refine pure_ (i := 7) (N := some 91) (v := ?_) (a' := ?_) Mk17_20 rfl rfl (any_of HT_.out (by kernel_rfl)) (fun _ _ _ h => h) (Or.inl ⟨by rfl, ?_⟩) ?_ ?_
                rotate_left
                ·intro w'
                 go_simp
                 with_reducible rfl
                rotate_left
                ·simp only [Act.put, qA, qB, qC, i64_w, i32_w]
                 rfl
                exact norm_ (by simp only [putAll, Act.put, qA, qB, qC]) (hCont (.slice Ao115 t491.length co115, .slice Ao116 t494.length co116, v501, v504, gb507) _ ⟨hHeld, (rS HO450), (qS HO453), (rS HO469), (sS HO472), (rS HO502), (sS HO505), (kS BK434), (kS BK435), (kS BK455), (kS BK463), (kS BK474), (kS BK507), GW507.out, GE507.out, NB434_507.out, NB507_434.out, NB435_507.out, NB507_435.out, NB455_507.out, NB507_455.out, NB463_507.out, NB507_463.out, NB474_507.out, NB507_474.out, (wZ HB)⟩)
              ·skip
               refine box_step ?hg (N := 14) ?hd (cs := #[.int .i64 0, .slice none 0 0, .slice none 0 0]) (t := 58) ?hr ?_; (case hd => rfl); (case hg => rfl); (case hr => first | (go_simp; done) | (go_simp; rfl))
               intro gb507 hg w113 hbox hb
               replace HO450 := bR HO450 hb
               replace HO453 := bQ HO453 hb
               replace HO469 := bR HO469 hb
               replace HO472 := bS HO472 hb
               replace HO493 := bR HO493 hb
               replace HO496 := bS HO496 hb
               have BK507 := Asd.mk (hbox)
               have GW507 := bG HB hg
               have GE507 := bG HB hg
               replace HB := bW HB hb
               have NB434_507 := bL BK434 hg
               have NB507_434 := bM BK434 hg
               replace BK434 := bU BK434 hb
               have NB435_507 := bL BK435 hg
               have NB507_435 := bM BK435 hg
               replace BK435 := bU BK435 hb
               have NB455_507 := bL BK455 hg
               have NB507_455 := bM BK455 hg
               replace BK455 := bU BK455 hb
               have NB463_507 := bL BK463 hg
               have NB507_463 := bM BK463 hg
               replace BK463 := bU BK463 hb
               have NB474_507 := bL BK474 hg
               have NB507_474 := bM BK474 hg
               replace BK474 := bU BK474 hb
               clear hb hbox hg
               refine hK.out _ _ ⟨(bkC BK434.out 0).trans rfl, (bkC BK434.out 1).trans rfl, (bkC BK434.out 2).trans rfl, (bkC BK435.out 0).trans rfl, (bkC BK435.out 1).trans rfl⟩ (fun hHeld => ?_)
               clear hK K
               refine norm_ (a' := ?_) ?_ ?_
               rotate_left
               ·show Act.put _ (some 14) _ = _
                simp only [Act.put, qA, qB, qC, i64_w, i32_w]
                rfl
               refine one_ (i := 3) (N := some 88) Mk17_8 rfl rfl (one_of HT_.out (by kernel_rfl)) (by decide) (fun K hK => ?_)
               refine goes_ Try.func21 (by kernel_rfl) rfl #[.agg #[.int .i64 a1_0, .string a1_1]] (by rfl) rfl rfl (by (try simp only [List.map_toArray, List.map_cons, List.map_nil]); first | done | rfl | (simp only [List.length_drop, List.length_take]; rfl)) ?_
               with_reducible refine (laws_toDeed.calls a1_0 a1_1 t497 t498 _ A40.out).mono ?_
               rintro e w114 ⟨rfl, hb⟩
               refine ⟨_, rfl, ?_⟩
               replace HO450 := bR HO450 hb
               replace HO453 := bQ HO453 hb
               replace HO469 := bR HO469 hb
               replace HO472 := bS HO472 hb
               replace HO493 := bR HO493 hb
               replace HO496 := bS HO496 hb
               replace BK434 := bU BK434 hb
               replace BK435 := bU BK435 hb
               replace BK455 := bU BK455 hb
               replace BK463 := bU BK463 hb
               replace BK474 := bU BK474 hb
               replace BK507 := bU BK507 hb
               replace HB := bW HB hb
               (try clear hb)
               (try clear hb2)
               (try clear hk)
               (try clear hi)
               obtain ⟨Ao115, co115, eo115⟩ := Kd.R_slice HO493.out
               (first | subst eo115 | (injection eo115 with f1_ f2_ f3_; have f4_ := f1_.symm; have f5_ := f3_.symm; clear f1_ f2_ f3_; subst f4_; subst f5_))
               obtain ⟨Ao116, co116, eo116⟩ := Kd.S_slice HO496.out
               (first | subst eo116 | (injection eo116 with f1_ f2_ f3_; have f4_ := f1_.symm; have f5_ := f3_.symm; clear f1_ f2_ f3_; subst f4_; subst f5_))
               refine hK.out _ _ ⟨(bkC BK434.out 0).trans rfl, (bkC BK434.out 1).trans rfl, (bkC BK434.out 2).trans rfl, (bkC BK435.out 0).trans rfl, (bkC BK435.out 1).trans rfl⟩ (fun hHeld => ?_)
               clear hK K
               refine norm_ (a' := ?_) ?_ ?_
               rotate_left
               ·show Act.put _ (some 88) _ = _
                simp only [Act.put, qA, qB, qC, i64_w, i32_w]
                rfl
               refine one_ (i := 4) (N := some 89) Mk17_11 rfl rfl (one_of HT_.out (by kernel_rfl)) (by decide) (fun K hK => ?_)
               refine goes_ Try.func64 (by kernel_rfl) rfl #[.agg #[.int .i64 t490, .slice Ao115 t491.length co115, .slice Ao116 t494.length co116], .agg #[.int .i64 t497, .string t498]] (by rfl) rfl rfl (by (try simp only [List.map_toArray, List.map_cons, List.map_nil]); first | done | rfl | (simp only [List.length_drop, List.length_take]; rfl)) ?_
               with_reducible refine (impl_MindDo.calls k t490 _ _ t491 _ _ t494 t497 t498 t499 t500 t503 t506 _ ?side1 ?side2 ?side3 ?side4 A41.out).mono ?_
               (case side1 => exact cZ (Kd.R_reads' HO493.out).2.2)
               (case side2 => exact (Kd.R_reads' HO493.out).2.1)
               (case side3 => exact cZ (Kd.S_reads' HO496.out).2.2)
               (case side4 => exact (Kd.S_reads' HO496.out).2.1)
               rintro e w117 ⟨v501, v504, rfl, ho0, ho1, hb⟩
               refine ⟨_, rfl, ?_⟩
               have HO502 := Asd.mk (Kd.R_mono (Kd.R_lower ho0 (below_size (wZ HB))) (fun _ _ => trivial))
               have HO505 := Asd.mk (Kd.S_mono (Kd.S_lower ho1 (below_size (wZ HB))) (fun _ _ => trivial))
               replace HO450 := bR HO450 hb
               replace HO453 := bQ HO453 hb
               replace HO469 := bR HO469 hb
               replace HO472 := bS HO472 hb
               replace HO493 := bR HO493 hb
               replace HO496 := bS HO496 hb
               replace BK434 := bU BK434 hb
               replace BK435 := bU BK435 hb
               replace BK455 := bU BK455 hb
               replace BK463 := bU BK463 hb
               replace BK474 := bU BK474 hb
               replace BK507 := bU BK507 hb
               replace HB := bW HB hb
               (try clear hb)
               (try clear hb2)
               (try clear hk)
               (try clear hi)
               (try clear ho0)
               (try clear ho1)
               refine hK.out _ _ ⟨(bkC BK434.out 0).trans rfl, (bkC BK434.out 1).trans rfl, (bkC BK434.out 2).trans rfl, (bkC BK435.out 0).trans rfl, (bkC BK435.out 1).trans rfl⟩ (fun hHeld => ?_)
               clear hK K
               refine norm_ (a' := ?_) ?_ ?_
               rotate_left
               ·show Act.put _ (some 89) _ = _
                simp only [Act.put, qA, qB, qC, i64_w, i32_w]
                rfl
               refine pure_ (i := 5) (N := some 84) (v := ?_) (a' := ?_) Mk17_14 rfl rfl (any_of HT_.out (by kernel_rfl)) (fun _ _ _ h => h) (Or.inl ⟨by rfl, ?_⟩) ?_ ?_
               rotate_left
               ·intro w'
                go_simp
                with_reducible rfl
               rotate_left
               ·simp only [Act.put, qA, qB, qC, i64_w, i32_w]
                rfl
               refine pure_ (i := 6) (N := some 90) (v := ?_) (a' := ?_) Mk17_17 rfl rfl (any_of HT_.out (by kernel_rfl)) (fun _ _ _ h => h) (Or.inl ⟨by rfl, ?_⟩) ?_ ?_
               rotate_left
               ·intro w'
                go_simp
                with_reducible rfl
               rotate_left
               ·simp only [Act.put, qA, qB, qC, i64_w, i32_w]
                rfl
               refine pure_ (i := 7) (N := some 91) (v := ?_) (a' := ?_) Mk17_20 rfl rfl (any_of HT_.out (by kernel_rfl)) (fun _ _ _ h => h) (Or.inl ⟨by rfl, ?_⟩) ?_ ?_
               rotate_left
               ·intro w'
                go_simp
                with_reducible rfl
               rotate_left
               ·simp only [Act.put, qA, qB, qC, i64_w, i32_w]
                rfl
               exact norm_ (by simp only [putAll, Act.put, qA, qB, qC]) (hCont (.slice Ao115 t491.length co115, .slice Ao116 t494.length co116, v501, v504, gb507) _ ⟨hHeld, (rS HO450), (qS HO453), (rS HO469), (sS HO472), (rS HO502), (sS HO505), (kS BK434), (kS BK435), (kS BK455), (kS BK463), (kS BK474), (kS BK507), GW507.out, GE507.out, NB434_507.out, NB507_434.out, NB435_507.out, NB507_435.out, NB455_507.out, NB507_455.out, NB463_507.out, NB507_463.out, NB474_507.out, NB507_474.out, (wZ HB)⟩)
             ·skip
              refine box_step ?hg (N := 14) ?hd (cs := #[.int .i64 0, .slice none 0 0, .slice none 0 0]) (t := 58) ?hr ?_; (case hd => rfl); (case hg => rfl); (case hr => first | (go_simp; done) | (go_simp; rfl))
              intro gb507 hg w112 hbox hb
              replace HO450 := bR HO450 hb
              replace HO453 := bQ HO453 hb
              replace HO469 := bR HO469 hb
              replace HO472 := bS HO472 hb
              have BK507 := Asd.mk (hbox)
              have GW507 := bG HB hg
              have GE507 := bG HB hg
              replace HB := bW HB hb
              have NB434_507 := bL BK434 hg
              have NB507_434 := bM BK434 hg
              replace BK434 := bU BK434 hb
              have NB435_507 := bL BK435 hg
              have NB507_435 := bM BK435 hg
              replace BK435 := bU BK435 hb
              have NB455_507 := bL BK455 hg
              have NB507_455 := bM BK455 hg
              replace BK455 := bU BK455 hb
              have NB463_507 := bL BK463 hg
              have NB507_463 := bM BK463 hg
              replace BK463 := bU BK463 hb
              have NB474_507 := bL BK474 hg
              have NB507_474 := bM BK474 hg
              replace BK474 := bU BK474 hb
              clear hb hbox hg
              refine hK.out _ _ ⟨(bkC BK434.out 0).trans rfl, (bkC BK434.out 1).trans rfl, (bkC BK434.out 2).trans rfl, (bkC BK435.out 0).trans rfl, (bkC BK435.out 1).trans rfl⟩ (fun hHeld => ?_)
              clear hK K
              refine norm_ (a' := ?_) ?_ ?_
              rotate_left
              ·show Act.put _ (some 14) _ = _
               simp only [Act.put, qA, qB, qC, i64_w, i32_w]
               rfl
              refine one_ (i := 1) (N := some 86) Mk17_5 rfl rfl (one_of HT_.out (by kernel_rfl)) (by decide) (fun K hK => ?_)
              refine goes_ Try.func53 (by kernel_rfl) rfl #[.agg #[.int .i64 a0_0, .slice A0_1 l0_1.length c0_1, .slice A0_2 l0_2.length c0_2]] (by rfl) rfl rfl (by (try simp only [List.map_toArray, List.map_cons, List.map_nil]); first | done | rfl | (simp only [List.length_drop, List.length_take]; rfl)) ?_
              with_reducible refine (laws_toMind.calls k a0_0 _ _ l0_1 _ _ l0_2 t490 t491 t494 _ ?side1 ?side2 ?side3 ?side4 A39.out).mono ?_
              (case side1 => exact cZ (Kd.C_below HR0_1.out HB.out))
              (case side2 => exact HC0_1.out)
              (case side3 => exact cZ (Kd.C_below HR0_2.out HB.out))
              (case side4 => exact HC0_2.out)
              rintro e w113 ⟨v492, v495, rfl, ho0, ho1, hb⟩
              refine ⟨_, rfl, ?_⟩
              have HO493 := Asd.mk (Kd.R_mono (Kd.R_lower ho0 (below_size (wZ HB))) (fun _ _ => trivial))
              have HO496 := Asd.mk (Kd.S_mono (Kd.S_lower ho1 (below_size (wZ HB))) (fun _ _ => trivial))
              replace HO450 := bR HO450 hb
              replace HO453 := bQ HO453 hb
              replace HO469 := bR HO469 hb
              replace HO472 := bS HO472 hb
              replace BK434 := bU BK434 hb
              replace BK435 := bU BK435 hb
              replace BK455 := bU BK455 hb
              replace BK463 := bU BK463 hb
              replace BK474 := bU BK474 hb
              replace BK507 := bU BK507 hb
              replace HB := bW HB hb
              (try clear hb)
              (try clear hb2)
              (try clear hk)
              (try clear hi)
              (try clear ho0)
              (try clear ho1)
              refine hK.out _ _ ⟨(bkC BK434.out 0).trans rfl, (bkC BK434.out 1).trans rfl, (bkC BK434.out 2).trans rfl, (bkC BK435.out 0).trans rfl, (bkC BK435.out 1).trans rfl⟩ (fun hHeld => ?_)
              clear hK K
              refine norm_ (a' := ?_) ?_ ?_
              rotate_left
              ·show Act.put _ (some 86) _ = _
               simp only [Act.put, qA, qB, qC, i64_w, i32_w]
               rfl
              refine one_ (i := 3) (N := some 88) Mk17_8 rfl rfl (one_of HT_.out (by kernel_rfl)) (by decide) (fun K hK => ?_)
              refine goes_ Try.func21 (by kernel_rfl) rfl #[.agg #[.int .i64 a1_0, .string a1_1]] (by rfl) rfl rfl (by (try simp only [List.map_toArray, List.map_cons, List.map_nil]); first | done | rfl | (simp only [List.length_drop, List.length_take]; rfl)) ?_
              with_reducible refine (laws_toDeed.calls a1_0 a1_1 t497 t498 _ A40.out).mono ?_
              rintro e w114 ⟨rfl, hb⟩
              refine ⟨_, rfl, ?_⟩
              replace HO450 := bR HO450 hb
              replace HO453 := bQ HO453 hb
              replace HO469 := bR HO469 hb
              replace HO472 := bS HO472 hb
              replace HO493 := bR HO493 hb
              replace HO496 := bS HO496 hb
              replace BK434 := bU BK434 hb
              replace BK435 := bU BK435 hb
              replace BK455 := bU BK455 hb
              replace BK463 := bU BK463 hb
              replace BK474 := bU BK474 hb
              replace BK507 := bU BK507 hb
              replace HB := bW HB hb
              (try clear hb)
              (try clear hb2)
              (try clear hk)
              (try clear hi)
              obtain ⟨Ao115, co115, eo115⟩ := Kd.R_slice HO493.out
              (first | subst eo115 | (injection eo115 with f1_ f2_ f3_; have f4_ := f1_.symm; have f5_ := f3_.symm; clear f1_ f2_ f3_; subst f4_; subst f5_))
              obtain ⟨Ao116, co116, eo116⟩ := Kd.S_slice HO496.out
              (first | subst eo116 | (injection eo116 with f1_ f2_ f3_; have f4_ := f1_.symm; have f5_ := f3_.symm; clear f1_ f2_ f3_; subst f4_; subst f5_))
              refine hK.out _ _ ⟨(bkC BK434.out 0).trans rfl, (bkC BK434.out 1).trans rfl, (bkC BK434.out 2).trans rfl, (bkC BK435.out 0).trans rfl, (bkC BK435.out 1).trans rfl⟩ (fun hHeld => ?_)
              clear hK K
              refine norm_ (a' := ?_) ?_ ?_
              rotate_left
              ·show Act.put _ (some 88) _ = _
               simp only [Act.put, qA, qB, qC, i64_w, i32_w]
               rfl
              refine one_ (i := 4) (N := some 89) Mk17_11 rfl rfl (one_of HT_.out (by kernel_rfl)) (by decide) (fun K hK => ?_)
              refine goes_ Try.func64 (by kernel_rfl) rfl #[.agg #[.int .i64 t490, .slice Ao115 t491.length co115, .slice Ao116 t494.length co116], .agg #[.int .i64 t497, .string t498]] (by rfl) rfl rfl (by (try simp only [List.map_toArray, List.map_cons, List.map_nil]); first | done | rfl | (simp only [List.length_drop, List.length_take]; rfl)) ?_
              with_reducible refine (impl_MindDo.calls k t490 _ _ t491 _ _ t494 t497 t498 t499 t500 t503 t506 _ ?side1 ?side2 ?side3 ?side4 A41.out).mono ?_
              (case side1 => exact cZ (Kd.R_reads' HO493.out).2.2)
              (case side2 => exact (Kd.R_reads' HO493.out).2.1)
              (case side3 => exact cZ (Kd.S_reads' HO496.out).2.2)
              (case side4 => exact (Kd.S_reads' HO496.out).2.1)
              rintro e w117 ⟨v501, v504, rfl, ho0, ho1, hb⟩
              refine ⟨_, rfl, ?_⟩
              have HO502 := Asd.mk (Kd.R_mono (Kd.R_lower ho0 (below_size (wZ HB))) (fun _ _ => trivial))
              have HO505 := Asd.mk (Kd.S_mono (Kd.S_lower ho1 (below_size (wZ HB))) (fun _ _ => trivial))
              replace HO450 := bR HO450 hb
              replace HO453 := bQ HO453 hb
              replace HO469 := bR HO469 hb
              replace HO472 := bS HO472 hb
              replace BK434 := bU BK434 hb
              replace BK435 := bU BK435 hb
              replace BK455 := bU BK455 hb
              replace BK463 := bU BK463 hb
              replace BK474 := bU BK474 hb
              replace BK507 := bU BK507 hb
              replace HB := bW HB hb
              (try clear hb)
              (try clear hb2)
              (try clear hk)
              (try clear hi)
              (try clear ho0)
              (try clear ho1)
              refine hK.out _ _ ⟨(bkC BK434.out 0).trans rfl, (bkC BK434.out 1).trans rfl, (bkC BK434.out 2).trans rfl, (bkC BK435.out 0).trans rfl, (bkC BK435.out 1).trans rfl⟩ (fun hHeld => ?_)
              clear hK K
              refine norm_ (a' := ?_) ?_ ?_
              rotate_left
              ·show Act.put _ (some 89) _ = _
               simp only [Act.put, qA, qB, qC, i64_w, i32_w]
               rfl
              refine pure_ (i := 5) (N := some 84) (v := ?_) (a' := ?_) Mk17_14 rfl rfl (any_of HT_.out (by kernel_rfl)) (fun _ _ _ h => h) (Or.inl ⟨by rfl, ?_⟩) ?_ ?_
              rotate_left
              ·intro w'
               go_simp
               with_reducible rfl
              rotate_left
              ·simp only [Act.put, qA, qB, qC, i64_w, i32_w]
               rfl
              refine pure_ (i := 6) (N := some 90) (v := ?_) (a' := ?_) Mk17_17 rfl rfl (any_of HT_.out (by kernel_rfl)) (fun _ _ _ h => h) (Or.inl ⟨by rfl, ?_⟩) ?_ ?_
              rotate_left
              ·intro w'
               go_simp
               with_reducible rfl
              rotate_left
              ·simp only [Act.put, qA, qB, qC, i64_w, i32_w]
               rfl
              refine pure_ (i := 7) (N := some 91) (v := ?_) (a' := ?_) Mk17_20 rfl rfl (any_of HT_.out (by kernel_rfl)) (fun _ _ _ h => h) (Or.inl ⟨by rfl, ?_⟩) ?_ ?_
              rotate_left
              ·intro w'
               go_simp
               with_reducible rfl
              rotate_left
              ·simp only [Act.put, qA, qB, qC, i64_w, i32_w]
               rfl
              exact norm_ (by simp only [putAll, Act.put, qA, qB, qC]) (hCont (.slice Ao115 t491.length co115, .slice Ao116 t494.length co116, v501, v504, gb507) _ ⟨hHeld, (rS HO450), (qS HO453), (rS HO469), (sS HO472), (rS HO502), (sS HO505), (kS BK434), (kS BK435), (kS BK455), (kS BK463), (kS BK474), (kS BK507), GW507.out, GE507.out, NB434_507.out, NB507_434.out, NB435_507.out, NB507_435.out, NB455_507.out, NB507_455.out, NB463_507.out, NB507_463.out, NB474_507.out, NB507_474.out, (wZ HB)⟩)
            rintro ⟨v492, v495, v501, v504, gb507⟩ w118 ⟨hS_, h2_, h3_, h6_, h7_, h12_, h13_, h14_, h15_, h16_, h17_, h18_, h19_, h20_, h21_, h22_, h23_, h24_, h25_, h26_, h27_, h28_, h29_, h30_, h31_, h32_⟩
            replace HO450 : Asd (Kd.R (Kd.int .i64) 3 w118 w.heap.size (fun _ => True) (.slice Ao64 t448.length co64) t448) := ⟨h2_⟩
            replace HO453 : Asd (Kd.Q (Kd.slice 3 (Kd.int .i64)) 55 w118 w.heap.size (fun _ => True) (.slice Ao66 t451.length co66) t451) := ⟨h3_⟩
            replace HO469 : Asd (Kd.R (Kd.int .i64) 3 w118 w.heap.size (fun _ => True) (.slice Ao85 t467.length co85) t488) := ⟨h6_⟩
            replace HO472 : Asd (Kd.S (Kd.slice 3 (Kd.int .i64)) 55 w118 w.heap.size (fun _ => True) (.slice Ao87 t470.length co87) t488p) := ⟨h7_⟩
            have HO502 : Asd (Kd.R (Kd.int .i64) 3 w118 w.heap.size (fun _ => True) v501 t500) := ⟨h12_⟩
            have HO505 : Asd (Kd.S (Kd.slice 3 (Kd.int .i64)) 55 w118 w.heap.size (fun _ => True) v504 t503) := ⟨h13_⟩
            replace BK434 : Asd (w118.heap[gb434]? = some (.cells #[.int .i64 a0_0, .slice A0_1 l0_1.length c0_1, .slice A0_2 l0_2.length c0_2] 67 (0, 0))) := ⟨h14_⟩
            replace BK435 : Asd (w118.heap[gb435]? = some (.cells #[.int .i64 a1_0, .string a1_1] 23 (0, 0))) := ⟨h15_⟩
            replace BK455 : Asd (w118.heap[gb455]? = some (.cells #[.int .i64 t447, .slice Ao64 t448.length co64, .slice Ao66 t451.length co66] 58 (0, 0))) := ⟨h16_⟩
            replace BK463 : Asd (w118.heap[gb463]? = some (.cells #[.int .i64 t456, .slice Ao76 t457.length co76, .slice Ao77 t460.length co77] 58 (0, 0))) := ⟨h17_⟩
            replace BK474 : Asd (w118.heap[gb474]? = some (.cells #[.int .i64 t466, .slice Ao85 t467.length co85, .slice Ao87 t470.length co87] 58 (0, 0))) := ⟨h18_⟩
            have BK507 : Asd (w118.heap[gb507]? = some (.cells #[.int .i64 0, .slice none 0 0, .slice none 0 0] 58 (0, 0))) := ⟨h19_⟩
            have GW507 : Asd (w.heap.size ≤ gb507) := ⟨h20_⟩
            have GE507 : Asd (w.heap.size ≤ gb507) := ⟨h21_⟩
            have NB434_507 : Asd (gb434 ≠ gb507) := ⟨h22_⟩
            have NB507_434 : Asd (gb507 ≠ gb434) := ⟨h23_⟩
            have NB435_507 : Asd (gb435 ≠ gb507) := ⟨h24_⟩
            have NB507_435 : Asd (gb507 ≠ gb435) := ⟨h25_⟩
            have NB455_507 : Asd (gb455 ≠ gb507) := ⟨h26_⟩
            have NB507_455 : Asd (gb507 ≠ gb455) := ⟨h27_⟩
            have NB463_507 : Asd (gb463 ≠ gb507) := ⟨h28_⟩
            have NB507_463 : Asd (gb507 ≠ gb463) := ⟨h29_⟩
            have NB474_507 : Asd (gb474 ≠ gb507) := ⟨h30_⟩
            have NB507_474 : Asd (gb507 ≠ gb474) := ⟨h31_⟩
            replace HB : Asd (Below w.heap.size w w118) := ⟨h32_⟩
            clear h2_ h3_ h6_ h7_ h12_ h13_ h14_ h15_ h16_ h17_ h18_ h19_ h20_ h21_ h22_ h23_ h24_ h25_ h26_ h27_ h28_ h29_ h30_ h31_ h32_
            have hHeld : w118.cell? ⟨gb434, 0, none⟩ = some (.int .i64 a0_0) ∧ w118.cell? ⟨gb434, 1, none⟩ = some (.slice A0_1 l0_1.length c0_1) ∧ w118.cell? ⟨gb434, 2, none⟩ = some (.slice A0_2 l0_2.length c0_2) ∧ w118.cell? ⟨gb435, 0, none⟩ = some (.int .i64 a1_0) ∧ w118.cell? ⟨gb435, 1, none⟩ = some (.string a1_1) := hS_
            obtain ⟨Ao120, co120, eo120⟩ := Kd.R_slice HO502.out
            (first | subst eo120 | (injection eo120 with f1_ f2_ f3_; have f4_ := f1_.symm; have f5_ := f3_.symm; clear f1_ f2_ f3_; subst f4_; subst f5_))
            obtain ⟨Ao122, co122, eo122⟩ := Kd.S_slice HO505.out
            (first | subst eo122 | (injection eo122 with f1_ f2_ f3_; have f4_ := f1_.symm; have f5_ := f3_.symm; clear f1_ f2_ f3_; subst f4_; subst f5_))
            refine norm_ (a' := ?_) ?_ ?_
            rotate_left
            ·simp only [putAll, Act.put, qA, qB, qC]
             rfl
            refine one_ (i := 9) (N := none) Mk17_21 rfl rfl (one_of HT_.out (by kernel_rfl)) (by decide) (fun K hK => ?_)
            have hs119 := bC BK507 0
            have hfs119 := bkF BK507.out 0
            have hns119_0 := NB434_507.out
            have hns119_1 := NB435_507.out
            have hns119_2 := NB455_507.out
            have hns119_3 := NB463_507.out
            have hns119_4 := NB474_507.out
            have hms119_0 := NB507_434.out
            have hms119_1 := NB507_435.out
            have hms119_2 := NB507_455.out
            have hms119_3 := NB507_463.out
            have hms119_4 := NB507_474.out
            have hs121 := bC BK507 1
            have hfs121 := bkF BK507.out 1
            have hns121_0 := NB434_507.out
            have hns121_1 := NB435_507.out
            have hns121_2 := NB455_507.out
            have hns121_3 := NB463_507.out
            have hns121_4 := NB474_507.out
            have hms121_0 := NB507_434.out
            have hms121_1 := NB507_435.out
            have hms121_2 := NB507_455.out
            have hms121_3 := NB507_463.out
            have hms121_4 := NB507_474.out
            have hs123 := bC BK507 2
            have hfs123 := bkF BK507.out 2
            have hns123_0 := NB434_507.out
            have hns123_1 := NB435_507.out
            have hns123_2 := NB455_507.out
            have hns123_3 := NB463_507.out
            have hns123_4 := NB474_507.out
            have hms123_0 := NB507_434.out
            have hms123_1 := NB507_435.out
            have hms123_2 := NB507_455.out
            have hms123_3 := NB507_463.out
            have hms123_4 := NB507_474.out
            refine skip_ (w1 := ?_) (by rfl) rfl ?_ ?_
            rotate_left
            ·go_simp
             rfl
            refine hK.out _ _ ⟨((cell_far (p := ⟨gb507, _, none⟩) NB434_507.out _).trans (((cell_far (p := ⟨gb507, _, none⟩) NB434_507.out _).trans (((cell_far (p := ⟨gb507, _, none⟩) NB434_507.out _).trans (hHeld.1)))))), ((cell_far (p := ⟨gb507, _, none⟩) NB434_507.out _).trans (((cell_far (p := ⟨gb507, _, none⟩) NB434_507.out _).trans (((cell_far (p := ⟨gb507, _, none⟩) NB434_507.out _).trans (hHeld.2.1)))))), ((cell_far (p := ⟨gb507, _, none⟩) NB434_507.out _).trans (((cell_far (p := ⟨gb507, _, none⟩) NB434_507.out _).trans (((cell_far (p := ⟨gb507, _, none⟩) NB434_507.out _).trans (hHeld.2.2.1)))))), ((cell_far (p := ⟨gb507, _, none⟩) NB435_507.out _).trans (((cell_far (p := ⟨gb507, _, none⟩) NB435_507.out _).trans (((cell_far (p := ⟨gb507, _, none⟩) NB435_507.out _).trans (hHeld.2.2.2.1)))))), ((cell_far (p := ⟨gb507, _, none⟩) NB435_507.out _).trans (((cell_far (p := ⟨gb507, _, none⟩) NB435_507.out _).trans (((cell_far (p := ⟨gb507, _, none⟩) NB435_507.out _).trans (hHeld.2.2.2.2))))))⟩ (fun hHeld => ?_)
            clear hK K
            refine pure_ (i := 10) (N := some 15) (v := ?_) (a' := ?_) Mk17_22 rfl rfl (any_of HT_.out (by kernel_rfl)) (fun _ _ _ h => h) (Or.inl ⟨by rfl, ?_⟩) ?_ ?_
            rotate_left
            ·intro w'
             go_simp
             with_reducible rfl
            rotate_left
            ·simp only [Act.put, qA, qB, qC, i64_w, i32_w]
             rfl
            refine done_ (done_of HT_.out (by kernel_rfl)) ?_
            have hnb124 := NB507_434.out
            have hnc124 := NB434_507.out
            have hnb125 := NB507_435.out
            have hnc125 := NB435_507.out
            have hnb126 := NB507_455.out
            have hnc126 := NB455_507.out
            have hnb127 := NB507_463.out
            have hnc127 := NB463_507.out
            have hnb128 := NB507_474.out
            have hnc128 := NB474_507.out
            obtain ⟨hcz129_0, hcz129_1, hcz129_2, hfz129_0, hfz129_1, hfz129_2⟩ := b3 BK507
            obtain ⟨hcz130_0, hcz130_1, hcz130_2, hfz130_0, hfz130_1, hfz130_2⟩ := b3 BK455
            try go_wp2_with (first | ((with_reducible refine gate_callee (f := 45) rfl ?_); refine gsM (some 94) rfl rfl Try.func45 (by kernel_rfl) rfl #[.agg #[.int .i64 t499, .slice Ao120 t500.length co120, .slice Ao122 t503.length co122], .agg #[.int .i64 t447, .slice Ao64 t448.length co64, .slice Ao66 t451.length co66]] rfl ?_; (with_reducible refine (laws_eqMind.calls k t499 _ _ t500 _ _ t503 t447 _ _ t448 _ _ t451 true _ ?side1 ?side2 ?side3 ?side4 ?side5 ?side6 ?side7 ?side8 A42.out).mono ?_); (case side1 => refine (Kd.R_reads' (e := 3) (base := w.heap.size) (ok := fun _ => True) (n := t500.length) (c := co120) ?_).2.2; exact rT HO502); (case side2 => exact (Kd.R_reads' HO502.out).2.1); (case side3 => refine (Kd.S_reads' (e := 55) (base := w.heap.size) (ok := fun _ => True) (n := t503.length) (c := co122) ?_).2.2; exact sT HO505); (case side4 => exact (Kd.S_reads' HO505.out).2.1); (case side5 => refine (Kd.R_reads' (e := 3) (base := w.heap.size) (ok := fun _ => True) (n := t448.length) (c := co64) ?_).2.2; exact rT HO450); (case side6 => exact (Kd.R_reads' HO450.out).2.1); (case side7 => refine (Kd.Q_reads' (e := 55) (base := w.heap.size) (ok := fun _ => True) (n := t451.length) (c := co66) ?_).2.2; exact qT HO453); (case side8 => exact (Kd.Q_reads' HO453.out).2.1); rintro e w131 ⟨rfl, hb⟩; refine ⟨_, rfl, ?_⟩; replace HO469 := Asd.mk (Kd.R_below (rT HO469) hb); replace HO472 := Asd.mk (Kd.S_below (sT HO472) hb); replace BK434 := bU BK434 hb; replace BK435 := bU BK435 hb; replace BK455 := bU BK455 hb; replace BK463 := bU BK463 hb; replace BK474 := bU BK474 hb; replace BK507 := bP #[.int .i64 t499, .slice Ao120 t500.length co120, .slice Ao122 t503.length co122] BK507 hb; replace HB := bW HB hb; (try clear hb); (try clear hb2); (try clear hk); (try clear hi); obtain ⟨hcz132_0, hcz132_1, hcz132_2, hfz132_0, hfz132_1, hfz132_2⟩ := b3 BK474) | ((with_reducible refine gate_callee (f := 49) rfl ?_); refine gsL (some 103) rfl rfl Try.func49 (by kernel_rfl) rfl #[.agg #[.int .i64 t466, .slice Ao85 t488.length co85, .slice Ao87 t488p.length co87], .int .i64 1] rfl (by (try simp only [List.map_toArray, List.map_cons, List.map_nil]); first | done | (rw [show t488.length = t467.length from (Kd.R_reads' HO469.out).1.symm, show t488p.length = t470.length from (Kd.S_reads' HO472.out).1.symm] <;> rfl) | rfl | (simp only [List.length_drop, List.length_take]; rfl)) ?_; (with_reducible refine (laws_heldMind.calls k t466 _ _ t488 _ _ t488p 1 t509 _ ?side1 ?side2 ?side3 ?side4 A45.out).mono ?_); (case side1 => exact cZ (Kd.R_reads' HO469.out).2.2); (case side2 => rw [show t488.length = t467.length from (Kd.R_reads' HO469.out).1.symm]; exact (Kd.R_reads' HO469.out).2.1); (case side3 => exact cZ (Kd.S_reads' HO472.out).2.2); (case side4 => rw [show t488p.length = t470.length from (Kd.S_reads' HO472.out).1.symm]; exact (Kd.S_reads' HO472.out).2.1); rintro e w133 ⟨rfl, hb⟩; refine ⟨_, rfl, ?_⟩; replace BK434 := bU BK434 hb; replace BK435 := bU BK435 hb; replace BK455 := bU BK455 hb; replace BK463 := bU BK463 hb; replace BK474 := bU BK474 hb; replace BK507 := bU BK507 hb; replace HB := bW HB hb; (try clear hb); (try clear hb2); (try clear hk); (try clear hi)))
            go_ret
            exact ⟨by first | rfl | (simp [*, errW_none, errW_some] <;> rfl), wZ HB⟩
         ·replace c43 := Bool.eq_false_iff.mpr c43
          subst c43
          rw [if_neg (show ¬ (false = true) by decide)] at H
          exact absurd H (by simp)
       ·replace c34 := Bool.eq_false_iff.mpr c34
        subst c34
        rw [if_neg (show ¬ (false = true) by decide)] at H
        exact absurd H (by simp)
     ·replace c30 := Bool.eq_false_iff.mpr c30
      subst c30
      rw [if_neg (show ¬ (false = true) by decide)] at H
      exact absurd H (by simp)
   ·replace c26 := Bool.eq_false_iff.mpr c26
    subst c26
    rw [if_neg (show ¬ (false = true) by decide)] at H
    exact absurd H (by simp)

/-- THE ONE PURE STATEMENT of laws_FnExactMindDo: yours. -/
def laws_FnExactMindDo.Pure : Prop := ∀ (a0_0 : Int) (l0_1 : List Int) (l0_2 : List (List Int)) (a1_0 : Int) (a1_1 : ByteArray), (Lit.int .i64 a0_0).wf = true → (l0_1.length ≤ maxLen ∧ ∀ y0 ∈ l0_1, (Lit.int .i64 y0).wf = true) → (l0_2.length ≤ maxLen ∧ ∀ y0 ∈ l0_2, (y0.length ≤ maxLen ∧ ∀ y1 ∈ y0, (Lit.int .i64 y1).wf = true)) → (Lit.int .i64 a1_0).wf = true → a1_1.size ≤ maxLen → ∃ k, laws_FnExactMindDo.f k a0_0 l0_1 l0_2 a1_0 a1_1 = some true
theorem laws_FnExactMindDo.walk (P : laws_FnExactMindDo.Pure) (x0 : S67) (cs0 : Array Value) (x1 : S23) (cs1 : Array Value) (w : World) (K0 : k67.K w x0 cs0.toList) (q0 : ((Lit.int .i64 x0.f0).wf = true ∧ (x0.f1.length ≤ maxLen ∧ ∀ y0 ∈ x0.f1, (Lit.int .i64 y0).wf = true) ∧ (x0.f2.length ≤ maxLen ∧ ∀ y0 ∈ x0.f2, (y0.length ≤ maxLen ∧ ∀ y1 ∈ y0, (Lit.int .i64 y1).wf = true)))) (K1 : k23.K w x1 cs1.toList) (q1 : ((Lit.int .i64 x1.f0).wf = true ∧ x1.f1.size ≤ maxLen)) :
  Calls Try.prog 15 #[.agg cs0, .agg cs1] w fun e w' => e = .returned (.bool true) ∧ Below w.heap.size w w' := by
 have hk0 := k67_open K0
 obtain ⟨A0_1, c0_1, A0_2, c0_2, hk0, l0_1, g0_1, l0_2, g0_2⟩ := hk0
 obtain rfl : cs0 = #[.int .i64 x0.f0, .slice A0_1 x0.f1.length c0_1, .slice A0_2 x0.f2.length c0_2] := Array.toList_inj.1 hk0
 have hk1 := k23_open K1
 obtain rfl : cs1 = #[.int .i64 x1.f0, .string x1.f1] := Array.toList_inj.1 hk1
 obtain ⟨k, h⟩ := P x0.f0 x0.f1 x0.f2 x1.f0 x1.f1 q0.1 q0.2.1 q0.2.2 q1.1 q1.2
 refine (laws_FnExactMindDo.calls k x0.f0 A0_1 c0_1 x0.f1 A0_2 c0_2 x0.f2 x1.f0 x1.f1 true w g0_1 l0_1 g0_2 l0_2 h).mono ?_
 rintro e w' ⟨rfl, hd⟩
 exact ⟨rfl, hd⟩

end Go.Proofs.Ytihgpkohglcijaa.P
