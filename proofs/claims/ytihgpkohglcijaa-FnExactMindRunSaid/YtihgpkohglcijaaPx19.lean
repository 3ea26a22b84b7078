-- Written by a program of this session (wip/hook.py), which runs the kit's printer; Lean checks it.
import Derived.Test.YtihgpkohglcijaaPx0
import Derived.Test.YtihgpkohglcijaaPx2
import Derived.Test.YtihgpkohglcijaaPx3
import Derived.Test.YtihgpkohglcijaaPx4
import Derived.Test.YtihgpkohglcijaaPx11
import Derived.Test.YtihgpkohglcijaaPx18
namespace Go.Proofs.Ytihgpkohglcijaa.P
open Go.RowKit Go.Proofs.YtihgpkohglcijaaW.PrintWords Go.Proofs.YtihgpkohglcijaaW.PrintLast Go.Proofs.YtihgpkohglcijaaW.PrintMore
attribute [local go_sem] max2_int min2_int max_two min_two max_three min_three max_four min_four   -- for this text's walks alone
set_option linter.unusedVariables false
set_option linter.unusedSimpArgs false

/-! ### laws_FnExactMindRun: function 18 -/
def laws_FnExactMindRun.f (k : Nat) (a0_0 : Int) (l0_1 : List Int) (l0_2 : List (List Int)) (l1 : List (S23)) : Option (Bool) := (laws_szMind.f k a0_0 l0_1 l0_2 1048576).bind fun t485 => (if t485 < 0 then (some true) else ((laws_szDeedS.f k l1 t485).bind fun t486 => (if t486 < 0 then (some true) else ((laws_toMind.f k a0_0 l0_1 l0_2).bind fun bt487 => ((laws_toDeedS.f k l1).bind fun t494 => ((spec_MindRun.f k bt487.1 bt487.2.1 bt487.2.2 t494).bind fun bt497 => ((laws_toMind.f k a0_0 l0_1 l0_2).bind fun bt506 => ((laws_toDeedS.f k l1).bind fun t514 => ((impl_MindRun.f k bt506.1 bt506.2.1 bt506.2.2 t514).bind fun bt517 => ((laws_eqMind.f k bt517.1 bt517.2.1 bt517.2.2.1 bt497.1 bt497.2.1 bt497.2.2.1).bind fun t526 => (if t526 = true then (if bt517.2.2.2 = bt497.2.2.2 then ((laws_toMind.f k a0_0 l0_1 l0_2).bind fun bt527 => ((laws_eqMind.f k bt506.1 bt506.2.1 bt506.2.2 bt527.1 bt527.2.1 bt527.2.2).bind fun t534 => (if t534 = true then ((laws_toDeedS.f k l1).bind fun t535 => ((laws_eqDeedS.f k t514 t535).bind fun t538 => (if t538 = true then ((laws_markMind.f k bt506.1 bt506.2.1 bt506.2.2 1).bind fun bt539 => ((laws_markDeedS.f k t514 bt539.1).bind fun bt541 => (if bt541.1 < 0 then (none) else ((laws_eqMind.f k bt517.1 bt517.2.1 bt517.2.2.1 bt497.1 bt497.2.1 bt497.2.2.1).bind fun t543 => (if t543 = true then ((laws_markMind.f k bt517.1 bt517.2.1 bt517.2.2.1 1).bind fun bt544 => ((laws_heldMind.f k bt517.1 bt544.2.1 bt544.2.2 1).bind fun t546 => (if t546 < 0 then (none) else (if t546 = bt544.1 then ((laws_toMind.f k a0_0 l0_1 l0_2).bind fun bt547 => ((laws_toDeedS.f k l1).bind fun t554 => ((impl_MindRun.f k bt547.1 bt547.2.1 bt547.2.2 t554).bind fun bt557 => ((laws_eqMind.f k bt557.1 bt557.2.1 bt557.2.2.1 bt497.1 bt497.2.1 bt497.2.2.1).bind fun t566 => (if t566 = true then (if bt557.2.2.2 = bt497.2.2.2 then ((laws_heldMind.f k bt517.1 bt544.2.1 bt544.2.2 1).bind fun t567 => (if t567 < 0 then (none) else (if t567 = bt544.1 then (some true) else (none)))) else (none)) else (none)))))) else (none))))) else (none)))))) else (none)))) else (none)))) else (none)) else (none))))))))))))
theorem laws_FnExactMindRun.mono : ∀ a0 a1 a2 a3 k, LeO (laws_FnExactMindRun.f k a0 a1 a2 a3) (laws_FnExactMindRun.f (k + 1) a0 a1 a2 a3) := by
 intro a0 a1 a2 a3 k
 unfold laws_FnExactMindRun.f
 repeat' first
   | (with_reducible first | exact impl_MindRun.mono _ _ _ _ _ | exact laws_eqDeedS.mono _ _ _ | exact laws_eqMind.mono _ _ _ _ _ _ _ | exact laws_heldMind.mono _ _ _ _ _ | exact laws_markDeedS.mono _ _ _ | exact laws_markMind.mono _ _ _ _ _ | exact laws_szDeedS.mono _ _ _ | exact laws_szMind.mono _ _ _ _ _ | exact laws_toDeedS.mono _ _ | exact laws_toMind.mono _ _ _ _ | exact spec_MindRun.mono _ _ _ _ _ | exact LeO.refl _ | exact LeO.none _ | refine LeO.ite ?_ ?_ | refine LeO.bind ?_ (fun _ => ?_))
   | refine LeO.ite ?_ ?_
   | refine LeO.bind ?_ (fun _ => ?_)
set_option maxHeartbeats 8000000 in
set_option maxRecDepth 100000 in
theorem laws_FnExactMindRun.calls (k : Nat) (a0_0 : Int) (A0_1 : Option Addr) (c0_1 : Nat) (l0_1 : List Int) (A0_2 : Option Addr) (c0_2 : Nat) (l0_2 : List (List Int)) (A1 : Option Addr) (c1 : Nat) (l1 : List (S23)) (r : Bool) (w : World) (hr0_1 : Kd.C (Kd.int .i64) w A0_1 l0_1.length l0_1) (hc0_1 : l0_1.length ≤ c0_1) (hr0_2 : Kd.C (Kd.slice 3 (Kd.int .i64)) w A0_2 l0_2.length l0_2) (hc0_2 : l0_2.length ≤ c0_2) (hr1 : Kd.C k23 w A1 l1.length l1) (hc1 : l1.length ≤ c1) (h : laws_FnExactMindRun.f k a0_0 l0_1 l0_2 l1 = some r) :
  Calls Try.prog 18 #[.agg #[.int .i64 a0_0, .slice A0_1 l0_1.length c0_1, .slice A0_2 l0_2.length c0_2], .slice A1 l1.length c1] w fun e w' => e = .returned (.bool r) ∧ Below w.heap.size w w' := by
 have hu67 := Try.underlying67
 have hu58 := Try.underlying58
 have HR0_1 := Asd.mk hr0_1
 have HC0_1 := Asd.mk hc0_1
 clear hr0_1 hc0_1
 have HR0_2 := Asd.mk hr0_2
 have HC0_2 := Asd.mk hc0_2
 clear hr0_2 hc0_2
 have HR1 := Asd.mk hr1
 have HC1 := Asd.mk hc1
 clear hr1 hc1
 have HB := Asd.mk (Below.refl w.heap.size w)
 have H : ((laws_szMind.f k a0_0 l0_1 l0_2 1048576).bind fun t485 => (if t485 < 0 then (some true) else ((laws_szDeedS.f k l1 t485).bind fun t486 => (if t486 < 0 then (some true) else ((laws_toMind.f k a0_0 l0_1 l0_2).bind fun bt487 => ((laws_toDeedS.f k l1).bind fun t494 => ((spec_MindRun.f k bt487.1 bt487.2.1 bt487.2.2 t494).bind fun bt497 => ((laws_toMind.f k a0_0 l0_1 l0_2).bind fun bt506 => ((laws_toDeedS.f k l1).bind fun t514 => ((impl_MindRun.f k bt506.1 bt506.2.1 bt506.2.2 t514).bind fun bt517 => ((laws_eqMind.f k bt517.1 bt517.2.1 bt517.2.2.1 bt497.1 bt497.2.1 bt497.2.2.1).bind fun t526 => (if t526 = true then (if bt517.2.2.2 = bt497.2.2.2 then ((laws_toMind.f k a0_0 l0_1 l0_2).bind fun bt527 => ((laws_eqMind.f k bt506.1 bt506.2.1 bt506.2.2 bt527.1 bt527.2.1 bt527.2.2).bind fun t534 => (if t534 = true then ((laws_toDeedS.f k l1).bind fun t535 => ((laws_eqDeedS.f k t514 t535).bind fun t538 => (if t538 = true then ((laws_markMind.f k bt506.1 bt506.2.1 bt506.2.2 1).bind fun bt539 => ((laws_markDeedS.f k t514 bt539.1).bind fun bt541 => (if bt541.1 < 0 then (none) else ((laws_eqMind.f k bt517.1 bt517.2.1 bt517.2.2.1 bt497.1 bt497.2.1 bt497.2.2.1).bind fun t543 => (if t543 = true then ((laws_markMind.f k bt517.1 bt517.2.1 bt517.2.2.1 1).bind fun bt544 => ((laws_heldMind.f k bt517.1 bt544.2.1 bt544.2.2 1).bind fun t546 => (if t546 < 0 then (none) else (if t546 = bt544.1 then ((laws_toMind.f k a0_0 l0_1 l0_2).bind fun bt547 => ((laws_toDeedS.f k l1).bind fun t554 => ((impl_MindRun.f k bt547.1 bt547.2.1 bt547.2.2 t554).bind fun bt557 => ((laws_eqMind.f k bt557.1 bt557.2.1 bt557.2.2.1 bt497.1 bt497.2.1 bt497.2.2.1).bind fun t566 => (if t566 = true then (if bt557.2.2.2 = bt497.2.2.2 then ((laws_heldMind.f k bt517.1 bt544.2.1 bt544.2.2 1).bind fun t567 => (if t567 < 0 then (none) else (if t567 = bt544.1 then (some true) else (none)))) else (none)) else (none)))))) else (none))))) else (none)))))) else (none)))) else (none)))) else (none)) else (none))))))))))))) = some r := h
 clear h
 replace H := Option.bind_eq_some_iff.mp H
 obtain ⟨t485, A30, H⟩ := H
 try dsimp only at H
 have A3 := Asd.mk A30
 clear A30
 by_cases c4 : t485 < 0
 ·rw [if_pos c4] at H
  have c4b0 : decide (t485 < 0) = true := decide_eq_true c4
  clear c4
  obtain rfl := Option.some.inj H
  go_enter Try.func18, Try.ntmps18
  go_wp2_with (first | ((with_reducible refine gate_dst (N := 2) rfl ?_); refine bxE ?hg (N := 2) ?hd (cs := #[.int .i64 a0_0, .slice A0_1 l0_1.length c0_1, .slice A0_2 l0_2.length c0_2]) (t := 67) ?hr ?_; (case hd => rfl); (case hg => rfl); (case hr => first | (go_simp; done) | (go_simp; rfl)); intro gb484 hg w5 hbox hb; have BK484 := Asd.mk (hbox); have GW484 := bG HB hg; have GE484 := bG HB hg; replace HB := bW HB hb; clear hb hbox hg; obtain ⟨hcz6_0, hcz6_1, hcz6_2, hfz6_0, hfz6_1, hfz6_2⟩ := b3 BK484) | ((with_reducible refine gate_callee (f := 51) rfl ?_); refine gsM (some 19) rfl rfl Try.func51 (by kernel_rfl) rfl #[.agg #[.int .i64 a0_0, .slice A0_1 l0_1.length c0_1, .slice A0_2 l0_2.length c0_2], .int .i64 1048576] rfl ?_; (with_reducible refine (laws_szMind.calls k a0_0 _ _ l0_1 _ _ l0_2 1048576 t485 _ ?side1 ?side2 ?side3 ?side4 A3.out).mono ?_); (case side1 => exact cZ (Kd.C_below HR0_1.out HB.out)); (case side2 => exact HC0_1.out); (case side3 => exact cZ (Kd.C_below HR0_2.out HB.out)); (case side4 => exact HC0_2.out); rintro e w7 ⟨rfl, hb⟩; refine ⟨_, rfl, ?_⟩; replace BK484 := bU BK484 hb; replace HB := bW HB hb; (try clear hb); (try clear hb2); (try clear hk); (try clear hi)))
  go_ret
  exact ⟨by first | rfl | (simp [*, errW_none, errW_some] <;> rfl), wZ HB⟩
 ·rw [if_neg c4] at H
  have c4b0 : decide (t485 < 0) = false := decide_eq_false c4
  clear c4
  replace H := Option.bind_eq_some_iff.mp H
  obtain ⟨t486, A80, H⟩ := H
  try dsimp only at H
  have A8 := Asd.mk A80
  clear A80
  by_cases c9 : t486 < 0
  ·rw [if_pos c9] at H
   have c9b0 : decide (t486 < 0) = true := decide_eq_true c9
   clear c9
   obtain rfl := Option.some.inj H
   go_enter Try.func18, Try.ntmps18
   go_wp2_with (first | ((with_reducible refine gate_dst (N := 2) rfl ?_); refine bxE ?hg (N := 2) ?hd (cs := #[.int .i64 a0_0, .slice A0_1 l0_1.length c0_1, .slice A0_2 l0_2.length c0_2]) (t := 67) ?hr ?_; (case hd => rfl); (case hg => rfl); (case hr => first | (go_simp; done) | (go_simp; rfl)); intro gb484 hg w10 hbox hb; have BK484 := Asd.mk (hbox); have GW484 := bG HB hg; have GE484 := bG HB hg; replace HB := bW HB hb; clear hb hbox hg; obtain ⟨hcz11_0, hcz11_1, hcz11_2, hfz11_0, hfz11_1, hfz11_2⟩ := b3 BK484) | ((with_reducible refine gate_callee (f := 51) rfl ?_); refine gsM (some 19) rfl rfl Try.func51 (by kernel_rfl) rfl #[.agg #[.int .i64 a0_0, .slice A0_1 l0_1.length c0_1, .slice A0_2 l0_2.length c0_2], .int .i64 1048576] rfl ?_; (with_reducible refine (laws_szMind.calls k a0_0 _ _ l0_1 _ _ l0_2 1048576 t485 _ ?side1 ?side2 ?side3 ?side4 A3.out).mono ?_); (case side1 => exact cZ (Kd.C_below HR0_1.out HB.out)); (case side2 => exact HC0_1.out); (case side3 => exact cZ (Kd.C_below HR0_2.out HB.out)); (case side4 => exact HC0_2.out); rintro e w12 ⟨rfl, hb⟩; refine ⟨_, rfl, ?_⟩; replace BK484 := bU BK484 hb; replace HB := bW HB hb; (try clear hb); (try clear hb2); (try clear hk); (try clear hi)) | ((with_reducible refine gate_callee (f := 23) rfl ?_); refine gsM (some 24) rfl rfl Try.func23 (by kernel_rfl) rfl #[.slice A1 l1.length c1, .int .i64 t485] rfl ?_; (with_reducible refine (laws_szDeedS.calls k _ _ l1 t485 t486 _ ?side1 ?side2 A8.out).mono ?_); (case side1 => exact cZ (Kd.C_below HR1.out HB.out)); (case side2 => exact HC1.out); rintro e w13 ⟨rfl, hb⟩; refine ⟨_, rfl, ?_⟩; replace BK484 := bU BK484 hb; replace HB := bW HB hb; (try clear hb); (try clear hb2); (try clear hk); (try clear hi)))
   go_ret
   exact ⟨by first | rfl | (simp [*, errW_none, errW_some] <;> rfl), wZ HB⟩
  ·rw [if_neg c9] at H
   have c9b0 : decide (t486 < 0) = false := decide_eq_false c9
   clear c9
   replace H := Option.bind_eq_some_iff.mp H
   obtain ⟨⟨t487, t488, t491⟩, A140, H⟩ := H
   try dsimp only at H
   have A14 := Asd.mk A140
   clear A140
   replace H := Option.bind_eq_some_iff.mp H
   obtain ⟨t494, A150, H⟩ := H
   try dsimp only at H
   have A15 := Asd.mk A150
   clear A150
   replace H := Option.bind_eq_some_iff.mp H
   obtain ⟨⟨t497, t498, t501, t504⟩, A160, H⟩ := H
   try dsimp only at H
   have A16 := Asd.mk A160
   clear A160
   replace H := Option.bind_eq_some_iff.mp H
   obtain ⟨⟨t506, t507, t510⟩, A170, H⟩ := H
   try dsimp only at H
   have A17 := Asd.mk A170
   clear A170
   replace H := Option.bind_eq_some_iff.mp H
   obtain ⟨t514, A180, H⟩ := H
   try dsimp only at H
   have A18 := Asd.mk A180
   clear A180
   replace H := Option.bind_eq_some_iff.mp H
   obtain ⟨⟨t517, t518, t521, t524⟩, A190, H⟩ := H
   try dsimp only at H
   have A19 := Asd.mk A190
   clear A190
   replace H := Option.bind_eq_some_iff.mp H
   obtain ⟨t526, A200, H⟩ := H
   try dsimp only at H
   have A20 := Asd.mk A200
   clear A200
   by_cases c21 : t526 = true
   ·subst c21
    rw [if_pos rfl] at H
    by_cases c22 : t524 = t504; rotate_left; (rw [if_neg c22] at H; exact absurd H (by simp))
    rw [if_pos c22] at H
    have c22b0 : (t524 == t504) = true := beq_iff_eq.mpr c22
    have c22b1 : (t524 != t504) = false := bne_eq_false_iff_eq.mpr c22
    clear c22
    replace H := Option.bind_eq_some_iff.mp H
    obtain ⟨⟨t527, t528, t531⟩, A230, H⟩ := H
    try dsimp only at H
    have A23 := Asd.mk A230
    clear A230
    replace H := Option.bind_eq_some_iff.mp H
    obtain ⟨t534, A240, H⟩ := H
    try dsimp only at H
    have A24 := Asd.mk A240
    clear A240
    by_cases c25 : t534 = true
    ·subst c25
     rw [if_pos rfl] at H
     replace H := Option.bind_eq_some_iff.mp H
     obtain ⟨t535, A260, H⟩ := H
     try dsimp only at H
     have A26 := Asd.mk A260
     clear A260
     replace H := Option.bind_eq_some_iff.mp H
     obtain ⟨t538, A270, H⟩ := H
     try dsimp only at H
     have A27 := Asd.mk A270
     clear A270
     by_cases c28 : t538 = true
     ·subst c28
      rw [if_pos rfl] at H
      replace H := Option.bind_eq_some_iff.mp H
      obtain ⟨⟨t539, t540, t540p⟩, A290, H⟩ := H
      try dsimp only at H
      have A29 := Asd.mk A290
      clear A290
      replace H := Option.bind_eq_some_iff.mp H
      obtain ⟨⟨t541, t542⟩, A300, H⟩ := H
      try dsimp only at H
      have A30 := Asd.mk A300
      clear A300
      by_cases c31 : t541 < 0
      ·rw [if_pos c31] at H
       exact absurd H (by simp)
      ·rw [if_neg c31] at H
       have c31b0 : decide (t541 < 0) = false := decide_eq_false c31
       clear c31
       replace H := Option.bind_eq_some_iff.mp H
       obtain ⟨t543, A320, H⟩ := H
       try dsimp only at H
       have A32 := Asd.mk A320
       clear A320
       by_cases c33 : t543 = true
       ·subst c33
        rw [if_pos rfl] at H
        replace H := Option.bind_eq_some_iff.mp H
        obtain ⟨⟨t544, t545, t545p⟩, A340, H⟩ := H
        try dsimp only at H
        have A34 := Asd.mk A340
        clear A340
        replace H := Option.bind_eq_some_iff.mp H
        obtain ⟨t546, A350, H⟩ := H
        try dsimp only at H
        have A35 := Asd.mk A350
        clear A350
        by_cases c36 : t546 < 0
        ·rw [if_pos c36] at H
         exact absurd H (by simp)
        ·rw [if_neg c36] at H
         have c36b0 : decide (t546 < 0) = false := decide_eq_false c36
         clear c36
         by_cases c37 : t546 = t544; rotate_left; (rw [if_neg c37] at H; exact absurd H (by simp))
         rw [if_pos c37] at H
         have c37b0 : (t546 == t544) = true := beq_iff_eq.mpr c37
         have c37b1 : (t546 != t544) = false := bne_eq_false_iff_eq.mpr c37
         clear c37
         replace H := Option.bind_eq_some_iff.mp H
         obtain ⟨⟨t547, t548, t551⟩, A380, H⟩ := H
         try dsimp only at H
         have A38 := Asd.mk A380
         clear A380
         replace H := Option.bind_eq_some_iff.mp H
         obtain ⟨t554, A390, H⟩ := H
         try dsimp only at H
         have A39 := Asd.mk A390
         clear A390
         replace H := Option.bind_eq_some_iff.mp H
         obtain ⟨⟨t557, t558, t561, t564⟩, A400, H⟩ := H
         try dsimp only at H
         have A40 := Asd.mk A400
         clear A400
         replace H := Option.bind_eq_some_iff.mp H
         obtain ⟨t566, A410, H⟩ := H
         try dsimp only at H
         have A41 := Asd.mk A410
         clear A410
         by_cases c42 : t566 = true
         ·subst c42
          rw [if_pos rfl] at H
          by_cases c43 : t564 = t504; rotate_left; (rw [if_neg c43] at H; exact absurd H (by simp))
          rw [if_pos c43] at H
          have c43b0 : (t564 == t504) = true := beq_iff_eq.mpr c43
          have c43b1 : (t564 != t504) = false := bne_eq_false_iff_eq.mpr c43
          clear c43
          replace H := Option.bind_eq_some_iff.mp H
          obtain ⟨t567, A440, H⟩ := H
          try dsimp only at H
          have A44 := Asd.mk A440
          clear A440
          by_cases c45 : t567 < 0
          ·rw [if_pos c45] at H
           exact absurd H (by simp)
          ·rw [if_neg c45] at H
           have c45b0 : decide (t567 < 0) = false := decide_eq_false c45
           clear c45
           by_cases c46 : t567 = t544; rotate_left; (rw [if_neg c46] at H; exact absurd H (by simp))
           rw [if_pos c46] at H
           have c46b0 : (t567 == t544) = true := beq_iff_eq.mpr c46
           have c46b1 : (t567 != t544) = false := bne_eq_false_iff_eq.mpr c46
           clear c46
           obtain rfl := Option.some.inj H
           go_enter Try.func18, Try.ntmps18
           try go_wp2_with (first | ((with_reducible refine gate_dst (N := 2) rfl ?_); refine bxE ?hg (N := 2) ?hd (cs := #[.int .i64 a0_0, .slice A0_1 l0_1.length c0_1, .slice A0_2 l0_2.length c0_2]) (t := 67) ?hr ?_; (case hd => rfl); (case hg => rfl); (case hr => first | (go_simp; done) | (go_simp; rfl)); intro gb484 hg w47 hbox hb; have BK484 := Asd.mk (hbox); have GW484 := bG HB hg; have GE484 := bG HB hg; replace HB := bW HB hb; clear hb hbox hg; obtain ⟨hcz48_0, hcz48_1, hcz48_2, hfz48_0, hfz48_1, hfz48_2⟩ := b3 BK484) | ((with_reducible refine gate_callee (f := 51) rfl ?_); refine gsM (some 19) rfl rfl Try.func51 (by kernel_rfl) rfl #[.agg #[.int .i64 a0_0, .slice A0_1 l0_1.length c0_1, .slice A0_2 l0_2.length c0_2], .int .i64 1048576] rfl ?_; (with_reducible refine (laws_szMind.calls k a0_0 _ _ l0_1 _ _ l0_2 1048576 t485 _ ?side1 ?side2 ?side3 ?side4 A3.out).mono ?_); (case side1 => exact cZ (Kd.C_below HR0_1.out HB.out)); (case side2 => exact HC0_1.out); (case side3 => exact cZ (Kd.C_below HR0_2.out HB.out)); (case side4 => exact HC0_2.out); rintro e w49 ⟨rfl, hb⟩; refine ⟨_, rfl, ?_⟩; replace BK484 := bU BK484 hb; replace HB := bW HB hb; (try clear hb); (try clear hb2); (try clear hk); (try clear hi)) | ((with_reducible refine gate_callee (f := 23) rfl ?_); refine gsM (some 24) rfl rfl Try.func23 (by kernel_rfl) rfl #[.slice A1 l1.length c1, .int .i64 t485] rfl ?_; (with_reducible refine (laws_szDeedS.calls k _ _ l1 t485 t486 _ ?side1 ?side2 A8.out).mono ?_); (case side1 => exact cZ (Kd.C_below HR1.out HB.out)); (case side2 => exact HC1.out); rintro e w50 ⟨rfl, hb⟩; refine ⟨_, rfl, ?_⟩; replace BK484 := bU BK484 hb; replace HB := bW HB hb; (try clear hb); (try clear hb2); (try clear hk); (try clear hi); obtain ⟨hcz51_0, hcz51_1, hcz51_2, hfz51_0, hfz51_1, hfz51_2⟩ := b3 BK484) | ((with_reducible refine gate_callee (f := 53) rfl ?_); refine gsM (some 29) rfl rfl Try.func53 (by kernel_rfl) rfl #[.agg #[.int .i64 a0_0, .slice A0_1 l0_1.length c0_1, .slice A0_2 l0_2.length c0_2]] rfl ?_; (with_reducible refine (laws_toMind.calls k a0_0 _ _ l0_1 _ _ l0_2 t487 t488 t491 _ ?side1 ?side2 ?side3 ?side4 A14.out).mono ?_); (case side1 => exact cZ (Kd.C_below HR0_1.out HB.out)); (case side2 => exact HC0_1.out); (case side3 => exact cZ (Kd.C_below HR0_2.out HB.out)); (case side4 => exact HC0_2.out); rintro e w52 ⟨v489, v492, rfl, ho0, ho1, hb⟩; refine ⟨_, rfl, ?_⟩; have HO490 := Asd.mk (Kd.R_mono (Kd.R_lower ho0 (below_size (wZ HB))) (fun _ _ => trivial)); have HO493 := Asd.mk (Kd.S_mono (Kd.S_lower ho1 (below_size (wZ HB))) (fun _ _ => trivial)); replace BK484 := bU BK484 hb; replace HB := bW HB hb; (try clear hb); (try clear hb2); (try clear hk); (try clear hi); (try clear ho0); (try clear ho1)) | ((with_reducible refine gate_callee (f := 25) rfl ?_); refine gsM (some 31) rfl rfl Try.func25 (by kernel_rfl) rfl #[.slice A1 l1.length c1] rfl ?_; (with_reducible refine (laws_toDeedS.calls k _ _ l1 t494 _ ?side1 ?side2 A15.out).mono ?_); (case side1 => exact cZ (Kd.C_below HR1.out HB.out)); (case side2 => exact HC1.out); rintro e w53 ⟨v495, rfl, ho0, hb⟩; refine ⟨_, rfl, ?_⟩; replace HO490 := bR HO490 hb; replace HO493 := bS HO493 hb; have HO496 := Asd.mk (Kd.R_mono (Kd.R_lower ho0 (below_size (wZ HB))) (fun _ _ => trivial)); replace BK484 := bU BK484 hb; replace HB := bW HB hb; (try clear hb); (try clear hb2); (try clear hk); (try clear hi); (try clear ho0); obtain ⟨Ao54, co54, eo54⟩ := Kd.R_slice HO490.out; subst eo54; obtain ⟨Ao55, co55, eo55⟩ := Kd.S_slice HO493.out; subst eo55; obtain ⟨Ao56, co56, eo56⟩ := Kd.R_slice HO496.out; subst eo56) | ((with_reducible refine gate_callee (f := 71) rfl ?_); refine gsM (some 32) rfl rfl Try.func71 (by kernel_rfl) rfl #[.agg #[.int .i64 t487, .slice Ao54 t488.length co54, .slice Ao55 t491.length co55], .slice Ao56 t494.length co56] rfl ?_; (with_reducible refine (spec_MindRun.calls k t487 _ _ t488 _ _ t491 _ _ t494 t497 t498 t501 t504 _ ?side1 ?side2 ?side3 ?side4 ?side5 ?side6 A16.out).mono ?_); (case side1 => exact cZ (Kd.R_reads' HO490.out).2.2); (case side2 => exact (Kd.R_reads' HO490.out).2.1); (case side3 => exact cZ (Kd.S_reads' HO493.out).2.2); (case side4 => exact (Kd.S_reads' HO493.out).2.1); (case side5 => exact cZ (Kd.R_reads' HO496.out).2.2); (case side6 => exact (Kd.R_reads' HO496.out).2.1); rintro e w57 ⟨v499, v502, rfl, ho0, ho1, hb⟩; refine ⟨_, rfl, ?_⟩; have HO500 := Asd.mk (Kd.R_mono (Kd.R_lower ho0 (below_size (wZ HB))) (fun _ _ => trivial)); have HO503 := Asd.mk (Kd.Q_mono (Kd.Q_lower ho1 (below_size (wZ HB))) (fun _ _ => trivial)); replace BK484 := bU BK484 hb; replace HB := bW HB hb; (try clear hb); (try clear hb2); (try clear hk); (try clear hi); (try clear ho0); (try clear ho1)) | ((with_reducible refine gate_dst (N := 6) rfl ?_); refine bxE ?hg (N := 6) ?hd (cs := #[.int .i64 0, .slice none 0 0, .slice none 0 0]) (t := 58) ?hr ?_; (case hd => rfl); (case hg => rfl); (case hr => first | (go_simp; done) | (go_simp; rfl)); intro gb505 hg w58 hbox hb; replace HO500 := bR HO500 hb; replace HO503 := bQ HO503 hb; have BK505 := Asd.mk (hbox); have GW505 := bG HB hg; have GE505 := bG HB hg; replace HB := bW HB hb; have NB484_505 := bL BK484 hg; have NB505_484 := bM BK484 hg; replace BK484 := bU BK484 hb; clear hb hbox hg; have hnb59 := NB505_484.out; have hnc59 := NB484_505.out; obtain ⟨hcz60_0, hcz60_1, hcz60_2, hfz60_0, hfz60_1, hfz60_2⟩ := b3 BK505; obtain ⟨Ao61, co61, eo61⟩ := Kd.R_slice HO500.out; subst eo61; obtain ⟨Ao62, co62, eo62, _⟩ := Kd.Q_slice HO503.out; subst eo62; obtain ⟨hcz63_0, hcz63_1, hcz63_2, hfz63_0, hfz63_1, hfz63_2⟩ := b3 BK484) | ((with_reducible refine gate_callee (f := 53) rfl ?_); refine gsM (some 36) rfl rfl Try.func53 (by kernel_rfl) rfl #[.agg #[.int .i64 a0_0, .slice A0_1 l0_1.length c0_1, .slice A0_2 l0_2.length c0_2]] rfl ?_; (with_reducible refine (laws_toMind.calls k a0_0 _ _ l0_1 _ _ l0_2 t506 t507 t510 _ ?side1 ?side2 ?side3 ?side4 A17.out).mono ?_); (case side1 => exact Kd.C_below HR0_1.out (wZ HB)); (case side2 => exact HC0_1.out); (case side3 => exact Kd.C_below HR0_2.out (wZ HB)); (case side4 => exact HC0_2.out); rintro e w64 ⟨v508, v511, rfl, ho0, ho1, hb⟩; refine ⟨_, rfl, ?_⟩; obtain ⟨wb, GB, GW, HN500, HN503, BN484, BN505, HX1, HX2⟩ : ∃ wb : World, Asd (Below wb.heap.size wb w64) ∧ Asd (Below w.heap.size w wb) ∧ Asd (Kd.R (Kd.int .i64) 3 wb w.heap.size (fun _ => True) (.slice Ao61 t498.length co61) t498) ∧ Asd (Kd.Q (Kd.slice 3 (Kd.int .i64)) 55 wb w.heap.size (fun _ => True) (.slice Ao62 t501.length co62) t501) ∧ Asd (wb.heap[gb484]? = some (.cells #[.int .i64 a0_0, .slice A0_1 l0_1.length c0_1, .slice A0_2 l0_2.length c0_2] 67 (0, 0))) ∧ Asd (wb.heap[gb505]? = some (.cells #[.int .i64 t497, .slice Ao61 t498.length co61, .slice Ao62 t501.length co62] 58 (0, 0))) ∧ Asd (Kd.R (Kd.int .i64) 3 w64 wb.heap.size (fun _ => True) v508 t507) ∧ Asd (Kd.S (Kd.slice 3 (Kd.int .i64)) 55 w64 wb.heap.size (fun k_ => some k_ ≠ (v508 : Value).ownBlock) v511 t510) := ⟨_, ⟨hb⟩, ⟨wZ HB⟩, ⟨rT HO500⟩, ⟨qT HO503⟩, ⟨kS BK484⟩, ⟨kP BK505⟩, ⟨ho0⟩, ⟨ho1⟩⟩; have GAB := Asd.mk (below_size GB.out); have GA := Asd.mk (Below.refl w64.heap.size w64); have HO509 := Asd.mk (Kd.R_mono (Kd.R_lower ho0 (below_size (wZ HB))) (fun _ _ => trivial)); have HO512 := Asd.mk (Kd.S_mono (Kd.S_lower ho1 (below_size (wZ HB))) (fun _ _ => trivial)); replace HO500 := Asd.mk (Kd.R_below (rT HO500) hb); replace HO503 := Asd.mk (Kd.Q_below (qT HO503) hb); replace BK484 := bU BK484 hb; replace BK505 := bP #[.int .i64 t497, .slice Ao61 t498.length co61, .slice Ao62 t501.length co62] BK505 hb; replace HB := bW HB hb; (try clear hb); (try clear hb2); (try clear hk); (try clear hi); (try clear ho0); (try clear ho1)) | ((with_reducible refine gate_dst (N := 8) rfl ?_); refine bxE ?hg (N := 8) ?hd (cs := #[.int .i64 0, .slice none 0 0, .slice none 0 0]) (t := 58) ?hr ?_; (case hd => rfl); (case hg => rfl); (case hr => first | (go_simp; done) | (go_simp; rfl)); intro gb513 hg w65 hbox hb; replace HO500 := bR HO500 hb; replace HO503 := bQ HO503 hb; replace HO509 := bR HO509 hb; replace HO512 := bS HO512 hb; have BK513 := Asd.mk (hbox); have GW513 := bG HB hg; have GE513 := bG HB hg; have GB513 := bG GB hg; have GA513 := bG GA hg; replace HB := bW HB hb; replace GB := bW GB hb; replace GA := bW GA hb; have NB484_513 := bL BK484 hg; have NB513_484 := bM BK484 hg; replace BK484 := bU BK484 hb; have NB505_513 := bL BK505 hg; have NB513_505 := bM BK505 hg; replace BK505 := bU BK505 hb; clear hb hbox hg; have hnb66 := NB513_484.out; have hnc66 := NB484_513.out; have hnb67 := NB513_505.out; have hnc67 := NB505_513.out; obtain ⟨hcz68_0, hcz68_1, hcz68_2, hfz68_0, hfz68_1, hfz68_2⟩ := b3 BK513; obtain ⟨Ao69, co69, eo69⟩ := Kd.R_slice HO509.out; subst eo69; obtain ⟨Ao70, co70, eo70⟩ := Kd.S_slice HO512.out; subst eo70) | ((with_reducible refine gate_callee (f := 25) rfl ?_); refine gsM (some 38) rfl rfl Try.func25 (by kernel_rfl) rfl #[.slice A1 l1.length c1] rfl ?_; (with_reducible refine (laws_toDeedS.calls k _ _ l1 t514 _ ?side1 ?side2 A18.out).mono ?_); (case side1 => exact Kd.C_below HR1.out (wZ HB)); (case side2 => exact HC1.out); rintro e w71 ⟨v515, rfl, ho0, hb⟩; refine ⟨_, rfl, ?_⟩; replace HO500 := Asd.mk (Kd.R_below (rT HO500) hb); replace HO503 := Asd.mk (Kd.Q_below (qT HO503) hb); replace HO509 := Asd.mk (Kd.R_below (rT HO509) hb); replace HO512 := Asd.mk (Kd.S_below (sT HO512) hb); have HO516 := Asd.mk (Kd.R_mono (Kd.R_lower ho0 (below_size (wZ GA))) (fun _ _ => trivial)); replace BK484 := bU BK484 hb; replace BK505 := bU BK505 hb; replace BK513 := bP #[.int .i64 t506, .slice Ao69 t507.length co69, .slice Ao70 t510.length co70] BK513 hb; replace HB := bW HB hb; replace GB := bW GB hb; replace GA := bW GA hb; (try clear hb); (try clear hb2); (try clear hk); (try clear hi); (try clear ho0); obtain ⟨hcz72_0, hcz72_1, hcz72_2, hfz72_0, hfz72_1, hfz72_2⟩ := b3 BK513; obtain ⟨Ao73, co73, eo73⟩ := Kd.R_slice HO516.out; subst eo73) | ((with_reducible refine gate_callee (f := 70) rfl ?_); refine gsM (some 42) rfl rfl Try.func70 (by kernel_rfl) rfl #[.agg #[.int .i64 t506, .slice Ao69 t507.length co69, .slice Ao70 t510.length co70], .slice Ao73 t514.length co73] rfl ?_; (with_reducible refine (impl_MindRun.calls k t506 _ _ t507 _ _ t510 _ _ t514 t517 t518 t521 t524 _ ?side1 ?side2 ?side3 ?side4 ?side5 ?side6 A19.out).mono ?_); (case side1 => exact cZ (Kd.R_reads' HO509.out).2.2); (case side2 => exact (Kd.R_reads' HO509.out).2.1); (case side3 => exact cZ (Kd.S_reads' HO512.out).2.2); (case side4 => exact (Kd.S_reads' HO512.out).2.1); (case side5 => exact cZ (Kd.R_reads' HO516.out).2.2); (case side6 => exact (Kd.R_reads' HO516.out).2.1); rintro e w74 ⟨v519, v522, rfl, ho0, ho1, hb⟩; refine ⟨_, rfl, ?_⟩; replace HO516 := bR HO516 hb; have HO520 := Asd.mk (Kd.R_mono (Kd.R_lower ho0 (below_size (wZ GA))) (fun _ _ => trivial)); have HO523 := Asd.mk (Kd.S_lower ho1 (below_size (wZ GA))); replace HO500 := bR HO500 hb; replace HO503 := bQ HO503 hb; replace HO509 := bR HO509 hb; replace HO512 := bS HO512 hb; replace BK484 := bU BK484 hb; replace BK505 := bU BK505 hb; replace BK513 := bU BK513 hb; replace HB := bW HB hb; replace GB := bW GB hb; replace GA := bW GA hb; (try clear hb); (try clear hb2); (try clear hk); (try clear hi); (try clear ho0); (try clear ho1)) | ((with_reducible refine gate_dst (N := 10) rfl ?_); refine bxE ?hg (N := 10) ?hd (cs := #[.int .i64 0, .slice none 0 0, .slice none 0 0]) (t := 58) ?hr ?_; (case hd => rfl); (case hg => rfl); (case hr => first | (go_simp; done) | (go_simp; rfl)); intro gb525 hg w75 hbox hb; replace HO500 := bR HO500 hb; replace HO503 := bQ HO503 hb; replace HO509 := bR HO509 hb; replace HO512 := bS HO512 hb; replace HO516 := bR HO516 hb; replace HO520 := bR HO520 hb; replace HO523 := bS HO523 hb; have BK525 := Asd.mk (hbox); have GW525 := bG HB hg; have GE525 := bG HB hg; have GB525 := bG GB hg; have GA525 := bG GA hg; replace HB := bW HB hb; replace GB := bW GB hb; replace GA := bW GA hb; have NB484_525 := bL BK484 hg; have NB525_484 := bM BK484 hg; replace BK484 := bU BK484 hb; have NB505_525 := bL BK505 hg; have NB525_505 := bM BK505 hg; replace BK505 := bU BK505 hb; have NB513_525 := bL BK513 hg; have NB525_513 := bM BK513 hg; replace BK513 := bU BK513 hb; clear hb hbox hg; have hnb76 := NB525_484.out; have hnc76 := NB484_525.out; have hnb77 := NB525_505.out; have hnc77 := NB505_525.out; have hnb78 := NB525_513.out; have hnc78 := NB513_525.out; obtain ⟨hcz79_0, hcz79_1, hcz79_2, hfz79_0, hfz79_1, hfz79_2⟩ := b3 BK525; obtain ⟨Ao80, co80, eo80⟩ := Kd.R_slice HO520.out; subst eo80; obtain ⟨Ao81, co81, eo81⟩ := Kd.S_slice HO523.out; subst eo81; obtain ⟨hcz82_0, hcz82_1, hcz82_2, hfz82_0, hfz82_1, hfz82_2⟩ := b3 BK505) | ((with_reducible refine gate_callee (f := 45) rfl ?_); refine gsM (some 47) rfl rfl Try.func45 (by kernel_rfl) rfl #[.agg #[.int .i64 t517, .slice Ao80 t518.length co80, .slice Ao81 t521.length co81], .agg #[.int .i64 t497, .slice Ao61 t498.length co61, .slice Ao62 t501.length co62]] rfl ?_; (with_reducible refine (laws_eqMind.calls k t517 _ _ t518 _ _ t521 t497 _ _ t498 _ _ t501 true _ ?side1 ?side2 ?side3 ?side4 ?side5 ?side6 ?side7 ?side8 A20.out).mono ?_); (case side1 => refine (Kd.R_reads' (e := 3) (base := w64.heap.size) (ok := fun _ => True) (n := t518.length) (c := co80) ?_).2.2; exact rT HO520); (case side2 => exact (Kd.R_reads' HO520.out).2.1); (case side3 => refine (Kd.S_reads' (e := 55) (base := w64.heap.size) (ok := fun k_ => some k_ ≠ (.slice Ao80 t518.length co80 : Value).ownBlock) (n := t521.length) (c := co81) ?_).2.2; exact sT HO523); (case side4 => exact (Kd.S_reads' HO523.out).2.1); (case side5 => refine (Kd.R_reads' (e := 3) (base := w.heap.size) (ok := fun _ => True) (n := t498.length) (c := co61) ?_).2.2; exact rT HO500); (case side6 => exact (Kd.R_reads' HO500.out).2.1); (case side7 => refine (Kd.Q_reads' (e := 55) (base := w.heap.size) (ok := fun _ => True) (n := t501.length) (c := co62) ?_).2.2; exact qT HO503); (case side8 => exact (Kd.Q_reads' HO503.out).2.1); rintro e w83 ⟨rfl, hb⟩; refine ⟨_, rfl, ?_⟩; replace HO500 := Asd.mk (Kd.R_below (rT HO500) hb); replace HO503 := Asd.mk (Kd.Q_below (qT HO503) hb); replace HO509 := Asd.mk (Kd.R_below (rT HO509) hb); replace HO512 := Asd.mk (Kd.S_below (sT HO512) hb); replace HO516 := Asd.mk (Kd.R_below (rT HO516) hb); replace HO520 := Asd.mk (Kd.R_below (rT HO520) hb); replace HO523 := Asd.mk (Kd.S_below (sT HO523) hb); replace BK484 := bU BK484 hb; replace BK505 := bU BK505 hb; replace BK513 := bU BK513 hb; replace BK525 := bP #[.int .i64 t517, .slice Ao80 t518.length co80, .slice Ao81 t521.length co81] BK525 hb; replace HB := bW HB hb; replace GB := bW GB hb; replace GA := bW GA hb; (try clear hb); (try clear hb2); (try clear hk); (try clear hi)))
           replace HO500 := Asd.mk (Kd.R_drew HO500.out)
           replace HO503 := Asd.mk (Kd.Q_drew HO503.out)
           replace HO509 := Asd.mk (Kd.R_drew HO509.out)
           replace HO512 := Asd.mk (Kd.S_drew HO512.out)
           replace HO516 := Asd.mk (Kd.R_drew HO516.out)
           replace HO520 := Asd.mk (Kd.R_drew HO520.out)
           replace HO523 := Asd.mk (Kd.S_drew HO523.out)
           replace BK484 := Asd.mk (bkD BK484.out)
           replace BK505 := Asd.mk (bkD BK505.out)
           replace BK513 := Asd.mk (bkD BK513.out)
           replace BK525 := Asd.mk (bkD BK525.out)
           replace HB := Asd.mk (bwD HB.out)
           replace GB := Asd.mk (bwD GB.out)
           replace GA := Asd.mk (bwD GA.out)
           refine start_ (n := 5) (S := fun w' => w'.cell? ⟨gb513, 0, none⟩ = some (.int .i64 t506) ∧ w'.cell? ⟨gb513, 1, none⟩ = some (.slice Ao69 t507.length co69) ∧ w'.cell? ⟨gb513, 2, none⟩ = some (.slice Ao70 t510.length co70) ∧ w'.cell? ⟨gb484, 0, none⟩ = some (.int .i64 a0_0) ∧ w'.cell? ⟨gb484, 1, none⟩ = some (.slice A0_1 l0_1.length c0_1) ∧ w'.cell? ⟨gb484, 2, none⟩ = some (.slice A0_2 l0_2.length c0_2)) (ds := []) #[false, false, false, false, false] (by kernel_rfl) rfl rfl ⟨(bkC BK513.out 0).trans rfl, (bkC BK513.out 1).trans rfl, (bkC BK513.out 2).trans rfl, (bkC BK484.out 0).trans rfl, (bkC BK484.out 1).trans rfl, (bkC BK484.out 2).trans rfl⟩ (fun hHeld => ?_)
           generalize w83.drew = w84 at HO500 HO503 HO509 HO512 HO516 HO520 HO523 BK484 BK505 BK513 BK525 HB GB GA hHeld ⊢
           refine take_ (i := 0) (N := some 54) (v := ?_) (a' := ?_) #[true, false, false, false, false] rfl rfl (by kernel_rfl) (fun _ _ _ h => h) (Or.inl ⟨by rfl, ?_⟩) hHeld ?_ ?_
           rotate_left
           ·rintro w' ⟨s0, s1, s2, s3, s4, s5⟩
            go_simp
            with_reducible rfl
           rotate_left
           ·simp only [Act.put, qA, qB, qC, i64_w, i32_w]
            rfl
           refine take_ (i := 1) (N := some 55) (v := ?_) (a' := ?_) #[true, true, false, false, false] rfl rfl (by kernel_rfl) (fun _ _ _ h => h) (Or.inl ⟨by rfl, ?_⟩) hHeld ?_ ?_
           rotate_left
           ·rintro w' ⟨s0, s1, s2, s3, s4, s5⟩
            go_simp
            with_reducible rfl
           rotate_left
           ·simp only [Act.put, qA, qB, qC, i64_w, i32_w]
            rfl
           refine one_ (i := 2) (N := some 56) #[true, true, true, false, false] rfl rfl (by kernel_rfl) (by decide) (fun K hK => ?_)
           refine goes_ Try.func53 (by kernel_rfl) rfl #[.agg #[.int .i64 a0_0, .slice A0_1 l0_1.length c0_1, .slice A0_2 l0_2.length c0_2]] (by rfl) rfl rfl (by (try simp only [List.map_toArray, List.map_cons, List.map_nil]); first | done | rfl | (simp only [List.length_drop, List.length_take]; rfl)) ?_
           with_reducible refine (laws_toMind.calls k a0_0 _ _ l0_1 _ _ l0_2 t527 t528 t531 _ ?side1 ?side2 ?side3 ?side4 A23.out).mono ?_
           (case side1 => exact cZ (Kd.C_below HR0_1.out HB.out))
           (case side2 => exact HC0_1.out)
           (case side3 => exact cZ (Kd.C_below HR0_2.out HB.out))
           (case side4 => exact HC0_2.out)
           rintro e w85 ⟨v529, v532, rfl, ho0, ho1, hb⟩
           refine ⟨_, rfl, ?_⟩
           replace HO516 := bR HO516 hb
           have HO530 := Asd.mk (Kd.R_mono (Kd.R_lower ho0 (below_size (wZ HB))) (fun _ _ => trivial))
           have HO533 := Asd.mk (Kd.S_mono (Kd.S_lower ho1 (below_size (wZ HB))) (fun _ _ => trivial))
           replace HO500 := bR HO500 hb
           replace HO503 := bQ HO503 hb
           replace HO509 := bR HO509 hb
           replace HO512 := bS HO512 hb
           replace HO520 := bR HO520 hb
           replace HO523 := bS HO523 hb
           replace BK484 := bU BK484 hb
           replace BK505 := bU BK505 hb
           replace BK513 := bU BK513 hb
           replace BK525 := bU BK525 hb
           replace HB := bW HB hb
           replace GB := bW GB hb
           replace GA := bW GA hb
           (try clear hb)
           (try clear hb2)
           (try clear hk)
           (try clear hi)
           (try clear ho0)
           (try clear ho1)
           obtain ⟨Ao86, co86, eo86⟩ := Kd.R_slice HO530.out
           (first | subst eo86 | (injection eo86 with f1_ f2_ f3_; have f4_ := f1_.symm; have f5_ := f3_.symm; clear f1_ f2_ f3_; subst f4_; subst f5_))
           obtain ⟨Ao87, co87, eo87⟩ := Kd.S_slice HO533.out
           (first | subst eo87 | (injection eo87 with f1_ f2_ f3_; have f4_ := f1_.symm; have f5_ := f3_.symm; clear f1_ f2_ f3_; subst f4_; subst f5_))
           refine hK.out _ _ ⟨(bkC BK513.out 0).trans rfl, (bkC BK513.out 1).trans rfl, (bkC BK513.out 2).trans rfl, (bkC BK484.out 0).trans rfl, (bkC BK484.out 1).trans rfl, (bkC BK484.out 2).trans rfl⟩ (fun hHeld => ?_)
           clear hK K
           refine norm_ (a' := ?_) ?_ ?_
           rotate_left
           ·show Act.put _ (some 56) _ = _
            simp only [Act.put, qA, qB, qC, i64_w, i32_w]
            rfl
           refine one_ (i := 3) (N := some 57) #[true, true, true, true, false] rfl rfl (by kernel_rfl) (by decide) (fun K hK => ?_)
           refine goes_ Try.func45 (by kernel_rfl) rfl #[.agg #[.int .i64 t506, .slice Ao69 t507.length co69, .slice Ao70 t510.length co70], .agg #[.int .i64 t527, .slice Ao86 t528.length co86, .slice Ao87 t531.length co87]] (by rfl) rfl rfl (by (try simp only [List.map_toArray, List.map_cons, List.map_nil]); first | done | rfl | (simp only [List.length_drop, List.length_take]; rfl)) ?_
           with_reducible refine (laws_eqMind.calls k t506 _ _ t507 _ _ t510 t527 _ _ t528 _ _ t531 true _ ?side1 ?side2 ?side3 ?side4 ?side5 ?side6 ?side7 ?side8 A24.out).mono ?_
           (case side1 => exact cZ (Kd.R_reads' HO509.out).2.2)
           (case side2 => exact (Kd.R_reads' HO509.out).2.1)
           (case side3 => exact cZ (Kd.S_reads' HO512.out).2.2)
           (case side4 => exact (Kd.S_reads' HO512.out).2.1)
           (case side5 => exact cZ (Kd.R_reads' HO530.out).2.2)
           (case side6 => exact (Kd.R_reads' HO530.out).2.1)
           (case side7 => exact cZ (Kd.S_reads' HO533.out).2.2)
           (case side8 => exact (Kd.S_reads' HO533.out).2.1)
           rintro e w88 ⟨rfl, hb⟩
           refine ⟨_, rfl, ?_⟩
           replace HO500 := bR HO500 hb
           replace HO503 := bQ HO503 hb
           replace HO509 := bR HO509 hb
           replace HO512 := bS HO512 hb
           replace HO516 := bR HO516 hb
           replace HO520 := bR HO520 hb
           replace HO523 := bS HO523 hb
           replace BK484 := bU BK484 hb
           replace BK505 := bU BK505 hb
           replace BK513 := bU BK513 hb
           replace BK525 := bU BK525 hb
           replace HB := bW HB hb
           replace GB := bW GB hb
           replace GA := bW GA hb
           (try clear hb)
           (try clear hb2)
           (try clear hk)
           (try clear hi)
           refine hK.out _ _ ⟨(bkC BK513.out 0).trans rfl, (bkC BK513.out 1).trans rfl, (bkC BK513.out 2).trans rfl, (bkC BK484.out 0).trans rfl, (bkC BK484.out 1).trans rfl, (bkC BK484.out 2).trans rfl⟩ (fun hHeld => ?_)
           clear hK K
           refine norm_ (a' := ?_) ?_ ?_
           rotate_left
           ·show Act.put _ (some 57) _ = _
            simp only [Act.put, qA, qB, qC, i64_w, i32_w]
            rfl
           refine pure_ (i := 4) (N := some 58) (v := ?_) (a' := ?_) #[true, true, true, true, true] rfl rfl (by kernel_rfl) (fun _ _ _ h => h) (Or.inl ⟨by rfl, ?_⟩) ?_ ?_
           rotate_left
           ·intro w'
            go_simp
            with_reducible rfl
           rotate_left
           ·simp only [Act.put, qA, qB, qC, i64_w, i32_w]
            rfl
           refine done_ (by kernel_rfl) ?_
           try go_wp2_with (first | ((with_reducible refine gate_callee (f := 25) rfl ?_); refine gsM (some 61) rfl rfl Try.func25 (by kernel_rfl) rfl #[.slice A1 l1.length c1] rfl ?_; (with_reducible refine (laws_toDeedS.calls k _ _ l1 t535 _ ?side1 ?side2 A26.out).mono ?_); (case side1 => exact cZ (Kd.C_below HR1.out HB.out)); (case side2 => exact HC1.out); rintro e w89 ⟨v536, rfl, ho0, hb⟩; refine ⟨_, rfl, ?_⟩; replace HO500 := bR HO500 hb; replace HO503 := bQ HO503 hb; replace HO509 := bR HO509 hb; replace HO512 := bS HO512 hb; replace HO520 := bR HO520 hb; replace HO523 := bS HO523 hb; have HO537 := Asd.mk (Kd.R_mono (Kd.R_lower ho0 (below_size (wZ HB))) (fun _ _ => trivial)); replace HO516 := bR HO516 hb; replace BK484 := bU BK484 hb; replace BK505 := bU BK505 hb; replace BK513 := bU BK513 hb; replace BK525 := bU BK525 hb; replace HB := bW HB hb; replace GB := bW GB hb; replace GA := bW GA hb; (try clear hb); (try clear hb2); (try clear hk); (try clear hi); (try clear ho0); obtain ⟨Ao90, co90, eo90⟩ := Kd.R_slice HO537.out; subst eo90) | ((with_reducible refine gate_callee (f := 27) rfl ?_); refine gsM (some 62) rfl rfl Try.func27 (by kernel_rfl) rfl #[.slice Ao73 t514.length co73, .slice Ao90 t535.length co90] rfl ?_; (with_reducible refine (laws_eqDeedS.calls k _ _ t514 _ _ t535 true _ ?side1 ?side2 ?side3 ?side4 A27.out).mono ?_); (case side1 => exact cZ (Kd.R_reads' HO516.out).2.2); (case side2 => exact (Kd.R_reads' HO516.out).2.1); (case side3 => exact cZ (Kd.R_reads' HO537.out).2.2); (case side4 => exact (Kd.R_reads' HO537.out).2.1); rintro e w91 ⟨rfl, hb⟩; refine ⟨_, rfl, ?_⟩; replace HO500 := bR HO500 hb; replace HO503 := bQ HO503 hb; replace HO509 := bR HO509 hb; replace HO512 := bS HO512 hb; replace HO516 := bR HO516 hb; replace HO520 := bR HO520 hb; replace HO523 := bS HO523 hb; replace BK484 := bU BK484 hb; replace BK505 := bU BK505 hb; replace BK513 := bU BK513 hb; replace BK525 := bU BK525 hb; replace HB := bW HB hb; replace GB := bW GB hb; replace GA := bW GA hb; (try clear hb); (try clear hb2); (try clear hk); (try clear hi); obtain ⟨hcz92_0, hcz92_1, hcz92_2, hfz92_0, hfz92_1, hfz92_2⟩ := b3 BK513) | ((with_reducible refine gate_callee (f := 48) rfl ?_); refine gsM (some 66) rfl rfl Try.func48 (by kernel_rfl) rfl #[.agg #[.int .i64 t506, .slice Ao69 t507.length co69, .slice Ao70 t510.length co70], .int .i64 1] rfl ?_; (with_reducible refine (laws_markMind.calls k t506 (fun k_ => some k_ = (.slice Ao69 t507.length co69 : Value).ownBlock ∧ wb.heap.size ≤ k_ ∧ k_ < w64.heap.size) (fun k_ => some k_ ≠ (.slice Ao69 t507.length co69 : Value).ownBlock ∧ wb.heap.size ≤ k_ ∧ k_ < w64.heap.size) (.slice Ao69 t507.length co69) (.slice Ao70 t510.length co70) t507 t510 1 t539 t540 t540p wb _ ?side1 ?side2 ?side3 ?side4 A29.out).mono ?_); (case side1 => exact wZ GB); (case side2 => exact (mk1 HX1 HX2 (wZ GA)).1); (case side3 => exact (mk1 HX1 HX2 (wZ GA)).2); (case side4 => exact fun _ h2 h1 => h2.1 h1.1); rintro e w93 ⟨rfl, hy0, hy1, hb, hkp⟩; refine ⟨_, rfl, ?_⟩; replace BK484 := Asd.mk (bkB BN484.out hb); replace BK505 := Asd.mk (bkB BN505.out hb); replace HO500 := Asd.mk (Kd.R_below HN500.out hb); replace HO503 := Asd.mk (Kd.Q_below HN503.out hb); replace BK513 := Asd.mk (blk_kept (kS BK513) hkp (fun hs_ => Nat.not_lt.2 GA513.out (hs_.elim (fun q => q.2.2) (fun q => q.2.2)))); replace BK525 := Asd.mk (blk_kept (kS BK525) hkp (fun hs_ => Nat.not_lt.2 GA525.out (hs_.elim (fun q => q.2.2) (fun q => q.2.2)))); replace HO520 := Asd.mk (Kd.R_mono (Kd.R_kept (Kd.R_bound (rS HO520)) hkp (fun _ ho_ hs_ => Nat.not_lt.2 ho_.2.1 (hs_.elim (fun q => q.2.2) (fun q => q.2.2)))) (fun _ _ => trivial)); replace HO523 := Asd.mk (Kd.S_mono (Kd.S_kept (Kd.S_bound (sS HO523)) hkp (fun _ ho_ hs_ => Nat.not_lt.2 ho_.2.1 (hs_.elim (fun q => q.2.2) (fun q => q.2.2)))) (fun _ h_ => h_.1)); replace HO516 := Asd.mk (Kd.R_mono (Kd.R_kept (Kd.R_bound (rS HO516)) hkp (fun _ ho_ hs_ => Nat.not_lt.2 ho_.2.1 (hs_.elim (fun q => q.2.2) (fun q => q.2.2)))) (fun _ _ => trivial)); replace HB := Asd.mk (bwP GW.out hb); replace GB := Asd.mk hb; clear GA; clear hb hkp hy0 hy1) | ((with_reducible refine gate_callee (f := 33) rfl ?_); refine gsM (some 69) rfl rfl Try.func33 (by kernel_rfl) rfl #[.slice Ao73 t514.length co73, .int .i64 t539] rfl ?_; (with_reducible refine (laws_markDeedS.calls k (fun k_ => some k_ = (.slice Ao73 t514.length co73 : Value).ownBlock) (.slice Ao73 t514.length co73) t514 t539 t541 t542 wb _ ?side1 ?side2 A30.out).mono ?_); (case side1 => exact wZ GB); (case side2 => exact Kd.R_lower (Kd.R_tight rfl (rS HO516)) GAB.out); rintro e w94 ⟨rfl, hy0, hb, hkp⟩; refine ⟨_, rfl, ?_⟩; replace BK484 := Asd.mk (bkB BN484.out hb); replace BK505 := Asd.mk (bkB BN505.out hb); replace HO500 := Asd.mk (Kd.R_below HN500.out hb); replace HO503 := Asd.mk (Kd.Q_below HN503.out hb); replace BK513 := Asd.mk (blk_kept (kS BK513) hkp (fun e_ => (Kd.R_ne HO516.out BK513.out (by decide)) e_)); replace BK525 := Asd.mk (blk_kept (kS BK525) hkp (fun e_ => (Kd.R_ne HO516.out BK525.out (by decide)) e_)); replace HO520 := Asd.mk (Kd.R_mono (Kd.R_kept (Kd.R_apart' HO520.out (Kd.R_typed HO516.out) (by decide)) hkp (fun _ hk_ hs_ => hk_.2 hs_)) (fun _ _ => trivial)); replace HO523 := Asd.mk (Kd.S_mono (Kd.S_kept (Kd.S_apart' HO523.out (Kd.R_typed HO516.out) (by decide)) hkp (fun _ hk_ hs_ => hk_.2 hs_)) (fun _ h_ => h_.1)); replace HB := Asd.mk (bwP GW.out hb); replace GB := Asd.mk hb; clear hb hkp hy0; obtain ⟨hcz95_0, hcz95_1, hcz95_2, hfz95_0, hfz95_1, hfz95_2⟩ := b3 BK525; obtain ⟨hcz96_0, hcz96_1, hcz96_2, hfz96_0, hfz96_1, hfz96_2⟩ := b3 BK505) | (go_at_call 45; (with_reducible refine (laws_eqMind.calls k t517 _ _ t518 _ _ t521 t497 _ _ t498 _ _ t501 true _ ?side1 ?side2 ?side3 ?side4 ?side5 ?side6 ?side7 ?side8 A32.out).mono ?_); (case side1 => exact cZ (Kd.R_reads' HO520.out).2.2); (case side2 => exact (Kd.R_reads' HO520.out).2.1); (case side3 => exact cZ (Kd.S_reads' HO523.out).2.2); (case side4 => exact (Kd.S_reads' HO523.out).2.1); (case side5 => exact cZ (Kd.R_reads' HO500.out).2.2); (case side6 => exact (Kd.R_reads' HO500.out).2.1); (case side7 => exact cZ (Kd.Q_reads' HO503.out).2.2); (case side8 => exact (Kd.Q_reads' HO503.out).2.1); rintro e w97 ⟨rfl, hb⟩; replace HO500 := bR HO500 hb; replace HO503 := bQ HO503 hb; replace HO520 := bR HO520 hb; replace HO523 := bS HO523 hb; replace BK484 := bU BK484 hb; replace BK505 := bU BK505 hb; replace BK513 := bU BK513 hb; replace BK525 := bU BK525 hb; replace HB := bW HB hb; replace GB := bW GB hb; (try clear hb); (try clear hb2); (try clear hk); (try clear hi); obtain ⟨hcz98_0, hcz98_1, hcz98_2, hfz98_0, hfz98_1, hfz98_2⟩ := b3 BK525) | ((with_reducible refine gate_callee (f := 48) rfl ?_); refine gsM (some 85) rfl rfl Try.func48 (by kernel_rfl) rfl #[.agg #[.int .i64 t517, .slice Ao80 t518.length co80, .slice Ao81 t521.length co81], .int .i64 1] rfl ?_; (with_reducible refine (laws_markMind.calls k t517 (fun k_ => some k_ = (.slice Ao80 t518.length co80 : Value).ownBlock ∧ w64.heap.size ≤ k_ ∧ k_ ≠ gb513 ∧ k_ ≠ gb525) (fun k_ => some k_ ≠ (.slice Ao80 t518.length co80 : Value).ownBlock ∧ w64.heap.size ≤ k_ ∧ k_ ≠ gb513 ∧ k_ ≠ gb525) (.slice Ao80 t518.length co80) (.slice Ao81 t521.length co81) t518 t521 1 t544 t545 t545p wb _ ?side1 ?side2 ?side3 ?side4 A34.out).mono ?_); (case side1 => exact wZ GB); (case side2 => exact (mk2 (rS HO520) (sS HO523) GAB.out (kS BK513) (kS BK525) (by decide) (by decide)).1); (case side3 => exact (mk2 (rS HO520) (sS HO523) GAB.out (kS BK513) (kS BK525) (by decide) (by decide)).2); (case side4 => exact fun _ h2 h1 => h2.1 h1.1); rintro e w99 ⟨rfl, hy0, hy1, hb, hkp⟩; refine ⟨_, rfl, ?_⟩; replace BK484 := Asd.mk (bkB BN484.out hb); replace BK505 := Asd.mk (bkB BN505.out hb); replace HO500 := Asd.mk (Kd.R_below HN500.out hb); replace HO503 := Asd.mk (Kd.Q_below HN503.out hb); replace BK513 := Asd.mk (blk_kept (kS BK513) hkp (fun hs_ => hs_.elim (fun q => q.2.2.1 rfl) (fun q => q.2.2.1 rfl))); replace BK525 := Asd.mk (blk_kept (kS BK525) hkp (fun hs_ => hs_.elim (fun q => q.2.2.2 rfl) (fun q => q.2.2.2 rfl))); replace HO520 := Asd.mk (Kd.R_mono (Kd.R_lower hy0 (below_size GW.out)) (fun _ _ => trivial)); replace HO523 := Asd.mk (Kd.S_mono (Kd.S_lower hy1 (below_size GW.out)) (fun _ _ => trivial)); replace HB := Asd.mk (bwP GW.out hb); clear GB; clear hb hkp hy0 hy1; obtain ⟨hcz100_0, hcz100_1, hcz100_2, hfz100_0, hfz100_1, hfz100_2⟩ := b3 BK525) | ((with_reducible refine gate_callee (f := 49) rfl ?_); refine gsL (some 88) rfl rfl Try.func49 (by kernel_rfl) rfl #[.agg #[.int .i64 t517, .slice Ao80 t545.length co80, .slice Ao81 t545p.length co81], .int .i64 1] rfl (by (try simp only [List.map_toArray, List.map_cons, List.map_nil]); first | done | (rw [show t545.length = t518.length from (Kd.R_reads' HO520.out).1.symm, show t545p.length = t521.length from (Kd.S_reads' HO523.out).1.symm] <;> rfl) | rfl | (simp only [List.length_drop, List.length_take]; rfl)) ?_; (with_reducible refine (laws_heldMind.calls k t517 _ _ t545 _ _ t545p 1 t546 _ ?side1 ?side2 ?side3 ?side4 A35.out).mono ?_); (case side1 => exact cZ (Kd.R_reads' HO520.out).2.2); (case side2 => rw [show t545.length = t518.length from (Kd.R_reads' HO520.out).1.symm]; exact (Kd.R_reads' HO520.out).2.1); (case side3 => exact cZ (Kd.S_reads' HO523.out).2.2); (case side4 => rw [show t545p.length = t521.length from (Kd.S_reads' HO523.out).1.symm]; exact (Kd.S_reads' HO523.out).2.1); rintro e w101 ⟨rfl, hb⟩; refine ⟨_, rfl, ?_⟩; replace HO500 := bR HO500 hb; replace HO503 := bQ HO503 hb; replace HO520 := bR HO520 hb; replace HO523 := bS HO523 hb; replace BK484 := bU BK484 hb; replace BK505 := bU BK505 hb; replace BK513 := bU BK513 hb; replace BK525 := bU BK525 hb; replace HB := bW HB hb; (try clear hb); (try clear hb2); (try clear hk); (try clear hi); obtain ⟨hcz102_0, hcz102_1, hcz102_2, hfz102_0, hfz102_1, hfz102_2⟩ := b3 BK484) | ((with_reducible refine gate_callee (f := 53) rfl ?_); refine gsM (some 96) rfl rfl Try.func53 (by kernel_rfl) rfl #[.agg #[.int .i64 a0_0, .slice A0_1 l0_1.length c0_1, .slice A0_2 l0_2.length c0_2]] rfl ?_; (with_reducible refine (laws_toMind.calls k a0_0 _ _ l0_1 _ _ l0_2 t547 t548 t551 _ ?side1 ?side2 ?side3 ?side4 A38.out).mono ?_); (case side1 => exact cZ (Kd.C_below HR0_1.out HB.out)); (case side2 => exact HC0_1.out); (case side3 => exact cZ (Kd.C_below HR0_2.out HB.out)); (case side4 => exact HC0_2.out); rintro e w103 ⟨v549, v552, rfl, ho0, ho1, hb⟩; refine ⟨_, rfl, ?_⟩; have HO550 := Asd.mk (Kd.R_mono (Kd.R_lower ho0 (below_size (wZ HB))) (fun _ _ => trivial)); have HO553 := Asd.mk (Kd.S_mono (Kd.S_lower ho1 (below_size (wZ HB))) (fun _ _ => trivial)); replace HO500 := bR HO500 hb; replace HO503 := bQ HO503 hb; replace HO520 := bR HO520 hb; replace HO523 := bS HO523 hb; replace BK484 := bU BK484 hb; replace BK505 := bU BK505 hb; replace BK513 := bU BK513 hb; replace BK525 := bU BK525 hb; replace HB := bW HB hb; (try clear hb); (try clear hb2); (try clear hk); (try clear hi); (try clear ho0); (try clear ho1)) | ((with_reducible refine gate_callee (f := 25) rfl ?_); refine gsM (some 98) rfl rfl Try.func25 (by kernel_rfl) rfl #[.slice A1 l1.length c1] rfl ?_; (with_reducible refine (laws_toDeedS.calls k _ _ l1 t554 _ ?side1 ?side2 A39.out).mono ?_); (case side1 => exact cZ (Kd.C_below HR1.out HB.out)); (case side2 => exact HC1.out); rintro e w104 ⟨v555, rfl, ho0, hb⟩; refine ⟨_, rfl, ?_⟩; replace HO500 := bR HO500 hb; replace HO503 := bQ HO503 hb; replace HO520 := bR HO520 hb; replace HO523 := bS HO523 hb; replace HO550 := bR HO550 hb; replace HO553 := bS HO553 hb; have HO556 := Asd.mk (Kd.R_mono (Kd.R_lower ho0 (below_size (wZ HB))) (fun _ _ => trivial)); replace BK484 := bU BK484 hb; replace BK505 := bU BK505 hb; replace BK513 := bU BK513 hb; replace BK525 := bU BK525 hb; replace HB := bW HB hb; (try clear hb); (try clear hb2); (try clear hk); (try clear hi); (try clear ho0); obtain ⟨Ao105, co105, eo105⟩ := Kd.R_slice HO550.out; subst eo105; obtain ⟨Ao106, co106, eo106⟩ := Kd.S_slice HO553.out; subst eo106; obtain ⟨Ao107, co107, eo107⟩ := Kd.R_slice HO556.out; subst eo107) | ((with_reducible refine gate_callee (f := 70) rfl ?_); refine gsM (some 99) rfl rfl Try.func70 (by kernel_rfl) rfl #[.agg #[.int .i64 t547, .slice Ao105 t548.length co105, .slice Ao106 t551.length co106], .slice Ao107 t554.length co107] rfl ?_; (with_reducible refine (impl_MindRun.calls k t547 _ _ t548 _ _ t551 _ _ t554 t557 t558 t561 t564 _ ?side1 ?side2 ?side3 ?side4 ?side5 ?side6 A40.out).mono ?_); (case side1 => exact cZ (Kd.R_reads' HO550.out).2.2); (case side2 => exact (Kd.R_reads' HO550.out).2.1); (case side3 => exact cZ (Kd.S_reads' HO553.out).2.2); (case side4 => exact (Kd.S_reads' HO553.out).2.1); (case side5 => exact cZ (Kd.R_reads' HO556.out).2.2); (case side6 => exact (Kd.R_reads' HO556.out).2.1); rintro e w108 ⟨v559, v562, rfl, ho0, ho1, hb⟩; refine ⟨_, rfl, ?_⟩; have HO560 := Asd.mk (Kd.R_mono (Kd.R_lower ho0 (below_size (wZ HB))) (fun _ _ => trivial)); have HO563 := Asd.mk (Kd.S_mono (Kd.S_lower ho1 (below_size (wZ HB))) (fun _ _ => trivial)); replace HO500 := bR HO500 hb; replace HO503 := bQ HO503 hb; replace HO520 := bR HO520 hb; replace HO523 := bS HO523 hb; replace BK484 := bU BK484 hb; replace BK505 := bU BK505 hb; replace BK513 := bU BK513 hb; replace BK525 := bU BK525 hb; replace HB := bW HB hb; (try clear hb); (try clear hb2); (try clear hk); (try clear hi); (try clear ho0); (try clear ho1)) | ((with_reducible refine gate_dst (N := 15) rfl ?_); refine bxE ?hg (N := 15) ?hd (cs := #[.int .i64 0, .slice none 0 0, .slice none 0 0]) (t := 58) ?hr ?_; (case hd => rfl); (case hg => rfl); (case hr => first | (go_simp; done) | (go_simp; rfl)); intro gb565 hg w109 hbox hb; replace HO500 := bR HO500 hb; replace HO503 := bQ HO503 hb; replace HO520 := bR HO520 hb; replace HO523 := bS HO523 hb; replace HO560 := bR HO560 hb; replace HO563 := bS HO563 hb; have BK565 := Asd.mk (hbox); have GW565 := bG HB hg; have GE565 := bG HB hg; replace HB := bW HB hb; have NB484_565 := bL BK484 hg; have NB565_484 := bM BK484 hg; replace BK484 := bU BK484 hb; have NB505_565 := bL BK505 hg; have NB565_505 := bM BK505 hg; replace BK505 := bU BK505 hb; have NB513_565 := bL BK513 hg; have NB565_513 := bM BK513 hg; replace BK513 := bU BK513 hb; have NB525_565 := bL BK525 hg; have NB565_525 := bM BK525 hg; replace BK525 := bU BK525 hb; clear hb hbox hg; have hnb110 := NB565_484.out; have hnc110 := NB484_565.out; have hnb111 := NB565_505.out; have hnc111 := NB505_565.out; have hnb112 := NB565_513.out; have hnc112 := NB513_565.out; have hnb113 := NB565_525.out; have hnc113 := NB525_565.out; obtain ⟨hcz114_0, hcz114_1, hcz114_2, hfz114_0, hfz114_1, hfz114_2⟩ := b3 BK565; obtain ⟨Ao115, co115, eo115⟩ := Kd.R_slice HO560.out; subst eo115; obtain ⟨Ao116, co116, eo116⟩ := Kd.S_slice HO563.out; subst eo116; obtain ⟨hcz117_0, hcz117_1, hcz117_2, hfz117_0, hfz117_1, hfz117_2⟩ := b3 BK505) | ((with_reducible refine gate_callee (f := 45) rfl ?_); refine gsM (some 104) rfl rfl Try.func45 (by kernel_rfl) rfl #[.agg #[.int .i64 t557, .slice Ao115 t558.length co115, .slice Ao116 t561.length co116], .agg #[.int .i64 t497, .slice Ao61 t498.length co61, .slice Ao62 t501.length co62]] rfl ?_; (with_reducible refine (laws_eqMind.calls k t557 _ _ t558 _ _ t561 t497 _ _ t498 _ _ t501 true _ ?side1 ?side2 ?side3 ?side4 ?side5 ?side6 ?side7 ?side8 A41.out).mono ?_); (case side1 => refine (Kd.R_reads' (e := 3) (base := w.heap.size) (ok := fun _ => True) (n := t558.length) (c := co115) ?_).2.2; exact rT HO560); (case side2 => exact (Kd.R_reads' HO560.out).2.1); (case side3 => refine (Kd.S_reads' (e := 55) (base := w.heap.size) (ok := fun _ => True) (n := t561.length) (c := co116) ?_).2.2; exact sT HO563); (case side4 => exact (Kd.S_reads' HO563.out).2.1); (case side5 => refine (Kd.R_reads' (e := 3) (base := w.heap.size) (ok := fun _ => True) (n := t498.length) (c := co61) ?_).2.2; exact rT HO500); (case side6 => exact (Kd.R_reads' HO500.out).2.1); (case side7 => refine (Kd.Q_reads' (e := 55) (base := w.heap.size) (ok := fun _ => True) (n := t501.length) (c := co62) ?_).2.2; exact qT HO503); (case side8 => exact (Kd.Q_reads' HO503.out).2.1); rintro e w118 ⟨rfl, hb⟩; refine ⟨_, rfl, ?_⟩; replace HO520 := Asd.mk (Kd.R_below (rT HO520) hb); replace HO523 := Asd.mk (Kd.S_below (sT HO523) hb); replace BK484 := bU BK484 hb; replace BK505 := bU BK505 hb; replace BK513 := bU BK513 hb; replace BK525 := bU BK525 hb; replace BK565 := bP #[.int .i64 t557, .slice Ao115 t558.length co115, .slice Ao116 t561.length co116] BK565 hb; replace HB := bW HB hb; (try clear hb); (try clear hb2); (try clear hk); (try clear hi); obtain ⟨hcz119_0, hcz119_1, hcz119_2, hfz119_0, hfz119_1, hfz119_2⟩ := b3 BK525) | ((with_reducible refine gate_callee (f := 49) rfl ?_); refine gsL (some 113) rfl rfl Try.func49 (by kernel_rfl) rfl #[.agg #[.int .i64 t517, .slice Ao80 t545.length co80, .slice Ao81 t545p.length co81], .int .i64 1] rfl (by (try simp only [List.map_toArray, List.map_cons, List.map_nil]); first | done | (rw [show t545.length = t518.length from (Kd.R_reads' HO520.out).1.symm, show t545p.length = t521.length from (Kd.S_reads' HO523.out).1.symm] <;> rfl) | rfl | (simp only [List.length_drop, List.length_take]; rfl)) ?_; (with_reducible refine (laws_heldMind.calls k t517 _ _ t545 _ _ t545p 1 t567 _ ?side1 ?side2 ?side3 ?side4 A44.out).mono ?_); (case side1 => exact cZ (Kd.R_reads' HO520.out).2.2); (case side2 => rw [show t545.length = t518.length from (Kd.R_reads' HO520.out).1.symm]; exact (Kd.R_reads' HO520.out).2.1); (case side3 => exact cZ (Kd.S_reads' HO523.out).2.2); (case side4 => rw [show t545p.length = t521.length from (Kd.S_reads' HO523.out).1.symm]; exact (Kd.S_reads' HO523.out).2.1); rintro e w120 ⟨rfl, hb⟩; refine ⟨_, rfl, ?_⟩; replace BK484 := bU BK484 hb; replace BK505 := bU BK505 hb; replace BK513 := bU BK513 hb; replace BK525 := bU BK525 hb; replace BK565 := bU BK565 hb; replace HB := bW HB hb; (try clear hb); (try clear hb2); (try clear hk); (try clear hi)))
           go_ret
           exact ⟨by first | rfl | (simp [*, errW_none, errW_some] <;> rfl), wZ HB⟩
         ·replace c42 := Bool.eq_false_iff.mpr c42
          subst c42
          rw [if_neg (show ¬ (false = true) by decide)] at H
          exact absurd H (by simp)
       ·replace c33 := Bool.eq_false_iff.mpr c33
        subst c33
        rw [if_neg (show ¬ (false = true) by decide)] at H
        exact absurd H (by simp)
     ·replace c28 := Bool.eq_false_iff.mpr c28
      subst c28
      rw [if_neg (show ¬ (false = true) by decide)] at H
      exact absurd H (by simp)
    ·replace c25 := Bool.eq_false_iff.mpr c25
     subst c25
     rw [if_neg (show ¬ (false = true) by decide)] at H
     exact absurd H (by simp)
   ·replace c21 := Bool.eq_false_iff.mpr c21
    subst c21
    rw [if_neg (show ¬ (false = true) by decide)] at H
    exact absurd H (by simp)

/-- THE ONE PURE STATEMENT of laws_FnExactMindRun: yours. -/
def laws_FnExactMindRun.Pure : Prop := ∀ (a0_0 : Int) (l0_1 : List Int) (l0_2 : List (List Int)) (l1 : List (S23)), (Lit.int .i64 a0_0).wf = true → (l0_1.length ≤ maxLen ∧ ∀ y0 ∈ l0_1, (Lit.int .i64 y0).wf = true) → (l0_2.length ≤ maxLen ∧ ∀ y0 ∈ l0_2, (y0.length ≤ maxLen ∧ ∀ y1 ∈ y0, (Lit.int .i64 y1).wf = true)) → (l1.length ≤ maxLen ∧ ∀ y0 ∈ l1, ((Lit.int .i64 y0.f0).wf = true ∧ y0.f1.size ≤ maxLen)) → ∃ k, laws_FnExactMindRun.f k a0_0 l0_1 l0_2 l1 = some true
theorem laws_FnExactMindRun.walk (P : laws_FnExactMindRun.Pure) (x0 : S67) (cs0 : Array Value) (A1 : Option Addr) (c1 : Nat) (x1 : List (S23)) (w : World) (K0 : k67.K w x0 cs0.toList) (q0 : ((Lit.int .i64 x0.f0).wf = true ∧ (x0.f1.length ≤ maxLen ∧ ∀ y0 ∈ x0.f1, (Lit.int .i64 y0).wf = true) ∧ (x0.f2.length ≤ maxLen ∧ ∀ y0 ∈ x0.f2, (y0.length ≤ maxLen ∧ ∀ y1 ∈ y0, (Lit.int .i64 y1).wf = true)))) (K1 : Kd.C k23 w A1 x1.length x1) (hc1 : x1.length ≤ c1) (q1 : (x1.length ≤ maxLen ∧ ∀ y0 ∈ x1, ((Lit.int .i64 y0.f0).wf = true ∧ y0.f1.size ≤ maxLen))) :
  Calls Try.prog 18 #[.agg cs0, .slice A1 x1.length c1] w fun e w' => e = .returned (.bool true) ∧ Below w.heap.size w w' := by
 have hk0 := k67_open K0
 obtain ⟨A0_1, c0_1, A0_2, c0_2, hk0, l0_1, g0_1, l0_2, g0_2⟩ := hk0
 obtain rfl : cs0 = #[.int .i64 x0.f0, .slice A0_1 x0.f1.length c0_1, .slice A0_2 x0.f2.length c0_2] := Array.toList_inj.1 hk0
 obtain ⟨k, h⟩ := P x0.f0 x0.f1 x0.f2 x1 q0.1 q0.2.1 q0.2.2 q1
 refine (laws_FnExactMindRun.calls k x0.f0 A0_1 c0_1 x0.f1 A0_2 c0_2 x0.f2 A1 c1 x1 true w g0_1 l0_1 g0_2 l0_2 K1 hc1 h).mono ?_
 rintro e w' ⟨rfl, hd⟩
 exact ⟨rfl, hd⟩

end Go.Proofs.Ytihgpkohglcijaa.P
