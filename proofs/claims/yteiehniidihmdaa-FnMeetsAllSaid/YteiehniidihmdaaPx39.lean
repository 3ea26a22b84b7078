-- Written by a program of this session (wip/hook.py), which runs the kit's printer; Lean checks it.
import Derived.Test.YteiehniidihmdaaPx0
import Derived.Test.YteiehniidihmdaaPx3
namespace Go.Proofs.Yteiehniidihmdaa.P
open Go.RowKit Go.Proofs.YteiehniidihmdaaW.PrintWords Go.Proofs.YteiehniidihmdaaW.PrintLast Go.Proofs.YteiehniidihmdaaW.PrintMore
attribute [local go_sem] max2_int min2_int max_two min_two max_three min_three max_four min_four   -- for this text's walks alone
set_option linter.unusedVariables false
set_option linter.unusedSimpArgs false

/-! ### spec_DrawMeetsAll: function 47 -/
def spec_DrawMeetsAll.l0 : Nat → Int → List Int → Int → List Int → Int → Option (Int × List Int)
  | 0, _, _, _, _, _ => none
  | k + 1, x5, x6, x7, x472000, x472001 => if x7 > 0 then (if 0 ≤ (mn x5 6) then ((spec_l20Rd_pick.f k x472000 x472001 (wrap64 (2 ^ (mn x5 6).toNat))).bind fun bt481 => ((spec_l20Rd_pick.f k x472000 bt481.2 40).bind fun bt483 => (if x6.length < 17592186044416 then (spec_DrawMeetsAll.l0 k x5 (x6 ++ [wrap64 (bt481.1 - (wrap64 (Int.tdiv bt483.1 39)))]) (wrap64 (x7 - 1)) x472000 bt483.2) else (none)))) else (none)) else (some (x5, x6))
def spec_DrawMeetsAll.f (k : Nat) (l0 : List Int) : Option (Int × List Int) := (spec_l20Open.f l0).bind fun bt469 => ((spec_l20Rd_pick.f k bt469.1 bt469.2 7).bind fun bt472 => ((spec_l20Rd_pick.f k bt469.1 bt472.2 20).bind fun bt474 => ((spec_l20Rd_pick.f k bt469.1 bt474.2 5).bind fun bt479 => (spec_DrawMeetsAll.l0 k (wrap64 (bt472.1 + (wrap64 ((wrap64 (Int.tdiv bt474.1 19)) * 2)))) (([] : List Int)) bt479.1 bt469.1 bt479.2))))
theorem spec_DrawMeetsAll.mono_l : ∀ k, (∀ y0 y1 y2 y3 y4, LeO (spec_DrawMeetsAll.l0 k y0 y1 y2 y3 y4) (spec_DrawMeetsAll.l0 (k + 1) y0 y1 y2 y3 y4))
  | 0 => fun _ _ _ _ _ r h => by simp [spec_DrawMeetsAll.l0] at h
  | k + 1 => by
    have ih0 := spec_DrawMeetsAll.mono_l k
    · intro y0 y1 y2 y3 y4
      unfold spec_DrawMeetsAll.l0
      repeat' first
      | (with_reducible exact ih0 _ _ _ _ _)
      | (with_reducible exact spec_l20Rd_pick.mono _ _ _ _)
      | (with_reducible exact LeO.refl _)
      | (with_reducible exact LeO.none _)
      | (with_reducible refine LeO.ite ?_ ?_)
      | (with_reducible refine LeO.bind ?_ (fun _ => ?_))
      | exact ih0 _ _ _ _ _
      | exact spec_l20Rd_pick.mono _ _ _ _
      | exact LeO.none _
      | refine LeO.ite ?_ ?_
      | refine LeO.bind ?_ (fun _ => ?_)
theorem spec_DrawMeetsAll.mono : ∀ a0 k, LeO (spec_DrawMeetsAll.f k a0) (spec_DrawMeetsAll.f (k + 1) a0) := by
  intro a0 k
  have ih0 := spec_DrawMeetsAll.mono_l k
  unfold spec_DrawMeetsAll.f
  repeat' first
      | (with_reducible exact ih0 _ _ _ _ _)
      | (with_reducible exact spec_l20Rd_pick.mono _ _ _ _)
      | (with_reducible exact LeO.refl _)
      | (with_reducible exact LeO.none _)
      | (with_reducible refine LeO.ite ?_ ?_)
      | (with_reducible refine LeO.bind ?_ (fun _ => ?_))
      | exact ih0 _ _ _ _ _
      | exact spec_l20Rd_pick.mono _ _ _ _
      | exact LeO.none _
      | refine LeO.ite ?_ ?_
      | refine LeO.bind ?_ (fun _ => ?_)
set_option maxHeartbeats 8000000 in
set_option maxRecDepth 100000 in
theorem spec_DrawMeetsAll.calls (k : Nat) (A0 : Option Addr) (c0 : Nat) (l0 : List Int) (r1 : Int) (r2 : List Int) (w : World) (hr0 : Kd.C (Kd.int .u8) w A0 l0.length l0) (hc0 : l0.length ≤ c0) (h : spec_DrawMeetsAll.f k l0 = some (r1, r2)) :
    Calls Try.prog 47 #[.slice A0 l0.length c0] w fun e w' => ∃ v1_ : Value, e = .returned (.tuple #[.int .i64 r1, v1_]) ∧ Kd.R (Kd.int .i64) 3 w' w.heap.size (fun _ => True) v1_ r2 ∧ Below w.heap.size w w' := by
  have HR0 := Aside0.mk hr0
  have HC0 := Aside0.mk hc0
  clear hr0 hc0
  have HB := Aside0.mk (Below.refl w.heap.size w)
  have H : ((spec_l20Open.f l0).bind fun bt469 => ((spec_l20Rd_pick.f k bt469.1 bt469.2 7).bind fun bt472 => ((spec_l20Rd_pick.f k bt469.1 bt472.2 20).bind fun bt474 => ((spec_l20Rd_pick.f k bt469.1 bt474.2 5).bind fun bt479 => (spec_DrawMeetsAll.l0 k (wrap64 (bt472.1 + (wrap64 ((wrap64 (Int.tdiv bt474.1 19)) * 2)))) (([] : List Int)) bt479.1 bt469.1 bt479.2))))) = some (r1, r2) := h
  clear h
  replace H := Option.bind_eq_some_iff.mp H
  obtain ⟨⟨t469, t470⟩, A20, H⟩ := H
  replace H : ((spec_l20Rd_pick.f k t469 t470 7).bind fun bt472 => ((spec_l20Rd_pick.f k t469 bt472.2 20).bind fun bt474 => ((spec_l20Rd_pick.f k t469 bt474.2 5).bind fun bt479 => (spec_DrawMeetsAll.l0 k (wrap64 (bt472.1 + (wrap64 ((wrap64 (Int.tdiv bt474.1 19)) * 2)))) (([] : List Int)) bt479.1 t469 bt479.2)))) = some (r1, r2) := H
  have A2 := Aside0.mk A20
  clear A20
  replace H := Option.bind_eq_some_iff.mp H
  obtain ⟨⟨t472, t473⟩, A30, H⟩ := H
  replace H : ((spec_l20Rd_pick.f k t469 t473 20).bind fun bt474 => ((spec_l20Rd_pick.f k t469 bt474.2 5).bind fun bt479 => (spec_DrawMeetsAll.l0 k (wrap64 (t472 + (wrap64 ((wrap64 (Int.tdiv bt474.1 19)) * 2)))) (([] : List Int)) bt479.1 t469 bt479.2))) = some (r1, r2) := H
  have A3 := Aside0.mk A30
  clear A30
  replace H := Option.bind_eq_some_iff.mp H
  obtain ⟨⟨t474, t475⟩, A40, H⟩ := H
  replace H : ((spec_l20Rd_pick.f k t469 t475 5).bind fun bt479 => (spec_DrawMeetsAll.l0 k (wrap64 (t472 + (wrap64 ((wrap64 (Int.tdiv t474 19)) * 2)))) (([] : List Int)) bt479.1 t469 bt479.2)) = some (r1, r2) := H
  have A4 := Aside0.mk A40
  clear A40
  obtain ⟨y476, hy476⟩ : ∃ y_ : List Int, y_ = (([] : List Int)) := ⟨_, rfl⟩
  replace H : ((spec_l20Rd_pick.f k t469 t475 5).bind fun bt479 => (spec_DrawMeetsAll.l0 k (wrap64 (t472 + (wrap64 ((wrap64 (Int.tdiv t474 19)) * 2)))) y476 bt479.1 t469 bt479.2)) = some (r1, r2) := by first | (rw [hy476]; with_reducible exact H) | (have H2_ := (Option.bind_some _ _).symm.trans H; rw [hy476]; with_reducible exact H2_) | (have H2_ := (Option.bind_some _ _).symm.trans H; with_reducible exact H2_) | with_reducible exact H | (rw [hy476]; exact H) | exact H
  have Ny476 := Aside0.mk hy476
  clear hy476
  replace H := Option.bind_eq_some_iff.mp H
  obtain ⟨⟨t479, t480⟩, A50, H⟩ := H
  replace H : (spec_DrawMeetsAll.l0 k (wrap64 (t472 + (wrap64 ((wrap64 (Int.tdiv t474 19)) * 2)))) y476 t479 t469 t480) = some (r1, r2) := H
  have A5 := Aside0.mk A50
  clear A50
  have H' := Aside0.mk H
  clear H
  go_enter Try.func47, Try.ntmps47
  go_wp2_with (first | ((with_reducible refine gate_callee (f := 88) rfl ?_); refine goesL_ (some 9) rfl rfl Try.func88 (by kernel_rfl) rfl #[.slice A0 l0.length c0] rfl (by (try simp only [List.map_toArray, List.map_cons, List.map_nil]); first | done | rfl | (simp only [List.length_drop, List.length_take]; rfl)) ?_; (with_reducible refine (spec_l20Open.calls _ _ l0 t469 t470 w _ ?side1 ?side2 ?side3 A2.out).mono ?_); (case side1 => repeat (first | (with_reducible first | exact HB.out | apply below_alloc | apply pw_below_drewN | apply below_drew1) | exact HB.out)); (case side2 => exact HR0.out); (case side3 => exact HC0.out); rintro e w6 ⟨g471, rfl, hi, hb, hb2⟩; refine ⟨_, rfl, ?_⟩; have n0_ := Aside0.mk (hb); have n1_ := Aside0.mk (hi); clear HB; have HB := n0_; have HI471 := n1_; clear n0_ n1_; (try clear hb); (try clear hb2); (try clear hk); (try clear hi)) | ((with_reducible refine gate_callee (f := 95) rfl ?_); refine goesL_ (some 11) rfl rfl Try.func95 (by kernel_rfl) rfl #[.pointer (some ⟨g471, 0, none⟩), .int .i64 7] rfl (by (try simp only [List.map_toArray, List.map_cons, List.map_nil]); first | done | rfl | (simp only [List.length_drop, List.length_take]; rfl)) ?_; (with_reducible refine (spec_l20Rd_pick.calls k g471 t469 t470 7 t472 t473 w _ ?side1 ?side2 A3.out).mono ?_); (case side1 => repeat (first | (with_reducible first | exact HI471.out | apply IsS68.alloc | apply IsS68.drewN | apply IsS68.drew | apply IsS68.set_1) | exact HI471.out)); (case side2 => repeat (first | (with_reducible first | exact HB.out | apply below_alloc | apply pw_below_drewN | apply below_drew1 | refine below_set ?_ (IsS68.ge HI471.out)) | exact HB.out)); rintro e w7 ⟨rfl, hi, hb, hk⟩; refine ⟨_, rfl, ?_⟩; have n0_ := Aside0.mk (hb); have n1_ := Aside0.mk (hi); clear HB; clear HI471; have HB := n0_; have HI471 := n1_; clear n0_ n1_; (try clear hb); (try clear hb2); (try clear hk); (try clear hi)) | ((with_reducible refine gate_callee (f := 95) rfl ?_); refine goesL_ (some 13) rfl rfl Try.func95 (by kernel_rfl) rfl #[.pointer (some ⟨g471, 0, none⟩), .int .i64 20] rfl (by (try simp only [List.map_toArray, List.map_cons, List.map_nil]); first | done | rfl | (simp only [List.length_drop, List.length_take]; rfl)) ?_; (with_reducible refine (spec_l20Rd_pick.calls k g471 t469 t473 20 t474 t475 w _ ?side1 ?side2 A4.out).mono ?_); (case side1 => repeat (first | (with_reducible first | exact HI471.out | apply IsS68.alloc | apply IsS68.drewN | apply IsS68.drew | apply IsS68.set_1) | exact HI471.out)); (case side2 => repeat (first | (with_reducible first | exact HB.out | apply below_alloc | apply pw_below_drewN | apply below_drew1 | refine below_set ?_ (IsS68.ge HI471.out)) | exact HB.out)); rintro e w8 ⟨rfl, hi, hb, hk⟩; refine ⟨_, rfl, ?_⟩; have n0_ := Aside0.mk (hb); have n1_ := Aside0.mk (hi); clear HB; clear HI471; have HB := n0_; have HI471 := n1_; clear n0_ n1_; (try clear hb); (try clear hb2); (try clear hk); (try clear hi)) | ((with_reducible refine gate_dst (N := 17) rfl ?_); refine Kd.R_lit (Kd.int .i64) _ 3 ?hg (N := 17) ?hd (xs := ([] : List Int)) (inner := []) (ok := fun _ => True) (okp := fun _ => True) ?hr ?hp (fun _ hk => hk) trivial (Below.refl _ _) (Nat.le_refl _) (by simp) ?_; (case hd => rfl); (case hg => rfl); (case hr => first | (go_simp; done) | (go_simp; rfl)); (case hp => exact (Reps.none _ _)); intro v477 w9 ho10 hb hg_ hnew_; clear hg_ hnew_; (first | rw [← Ny476.out] at ho10 | (simp only [Int.reduceToNat] at ho10; rw [← Ny476.out] at ho10)); have n0_ := Aside0.mk (Kd.R_lower ho10 (below_size (by repeat (first | (with_reducible first | exact HB.out | apply below_alloc | apply pw_below_drewN | apply below_drew1 | refine below_set ?_ (IsS68.ge HI471.out)) | exact HB.out)))); have n1_ := Aside0.mk (IsS68.below (by repeat (first | (with_reducible first | exact HI471.out | apply IsS68.alloc | apply IsS68.drewN | apply IsS68.drew | apply IsS68.set_1) | exact HI471.out)) hb); have n2_ := Aside0.mk (below_step (by repeat (first | (with_reducible first | exact HB.out | apply below_alloc | apply pw_below_drewN | apply below_drew1 | refine below_set ?_ (IsS68.ge HI471.out)) | exact HB.out)) hb); clear HI471; clear HB; have HO478 := n0_; have HI471 := n1_; have HB := n2_; clear n0_ n1_ n2_; clear hb ho10) | ((with_reducible refine gate_callee (f := 95) rfl ?_); refine goesL_ (some 19) rfl rfl Try.func95 (by kernel_rfl) rfl #[.pointer (some ⟨g471, 0, none⟩), .int .i64 5] rfl (by (try simp only [List.map_toArray, List.map_cons, List.map_nil]); first | done | rfl | (simp only [List.length_drop, List.length_take]; rfl)) ?_; (with_reducible refine (spec_l20Rd_pick.calls k g471 t469 t475 5 t479 t480 w _ ?side1 ?side2 A5.out).mono ?_); (case side1 => repeat (first | (with_reducible first | exact HI471.out | apply IsS68.alloc | apply IsS68.drewN | apply IsS68.drew | apply IsS68.set_1) | exact HI471.out)); (case side2 => repeat (first | (with_reducible first | exact HB.out | apply below_alloc | apply pw_below_drewN | apply below_drew1 | refine below_set ?_ (IsS68.ge HI471.out)) | exact HB.out)); rintro e w11 ⟨rfl, hi, hb, hk⟩; refine ⟨_, rfl, ?_⟩; have n0_ := Aside0.mk (Kd.R_mono (Kd.R_keep (IsS68.apart (show IsS68 w _ g471 t469 t475 from by repeat (first | (with_reducible first | exact HI471.out | apply IsS68.alloc | apply IsS68.drewN | apply IsS68.drew | apply IsS68.set_1) | exact HI471.out)) (by (with_reducible repeat (first | apply Kd.R_alloc | apply Kd.R_drewN | apply Kd.R_drew)); exact HO478.out) (by decide)) hk (fun _ h => h.2)) (fun _ h => h.1)); have n1_ := Aside0.mk (hb); have n2_ := Aside0.mk (hi); clear HO478; clear HB; clear HI471; have HO478 := n0_; have HB := n1_; have HI471 := n2_; clear n0_ n1_ n2_; (try clear hb); (try clear hb2); (try clear hk); (try clear hi)))
  go_loopg [6, 7] k (fun kq v6 v7 w' => ∃ (x6_1 : List Int) (x7_1 : Int) (x472001_1 : Int), v7 = .int .i64 x7_1 ∧ Aside0 (spec_DrawMeetsAll.l0 kq (wrap64 (t472 + (wrap64 ((wrap64 (Int.tdiv t474 19)) * 2)))) x6_1 x7_1 t469 x472001_1 = some (r1, r2)) ∧ Aside0 (kq ≤ k) ∧ Aside0 (Kd.R (Kd.int .i64) 3 w' w.heap.size (fun _ => True) v6 x6_1) ∧ Aside0 (IsS68 w w' g471 t469 x472001_1) ∧ Aside0 (Below w.heap.size w w'))
  case atStart => exact ⟨(y476), (t479), (t480), (by first | rfl | (simp; done) | (simp [*]; done)), H', ⟨Nat.le_refl _⟩, ⟨by (with_reducible repeat (first | apply Kd.R_alloc | apply Kd.R_drewN | apply Kd.R_drew)); exact HO478.out⟩, ⟨by repeat (first | (with_reducible first | exact HI471.out | apply IsS68.alloc | apply IsS68.drewN | apply IsS68.drew | apply IsS68.set_1) | exact HI471.out)⟩, ⟨by repeat (first | (with_reducible first | exact HB.out | apply below_alloc | apply pw_below_drewN | apply below_drew1 | refine below_set ?_ (IsS68.ge HI471.out)) | exact HB.out)⟩⟩
  case round =>
    clear H'
    try clear p2
    try clear c4
    try clear p6
    try clear c8
    try clear c9
    obtain ⟨x6_1, x7_1, x472001_1, rfl, HA, HK1, HO_6, HI471, HB⟩ := hrel
    cases gk with
    | zero => exact absurd HA.out (by simp [spec_DrawMeetsAll.l0])
    | succ k1 =>
      have H := HA.out
      clear HA
      simp only [spec_DrawMeetsAll.l0] at H
      by_cases c12 : x7_1 > 0
      · rw [if_pos c12] at H
        have c12b0 : decide (0 < x7_1) = true := decide_eq_true c12
        clear c12
        obtain ⟨ji13, hji13⟩ : ∃ j_ : Int, (mn (wrap64 (t472 + (wrap64 ((wrap64 (Int.tdiv t474 19)) * 2)))) 6) = j_ := ⟨_, rfl⟩
        replace H : (if 0 ≤ (ji13) then ((spec_l20Rd_pick.f k1 t469 x472001_1 (wrap64 (2 ^ (ji13).toNat))).bind fun bt481 => ((spec_l20Rd_pick.f k1 t469 bt481.2 40).bind fun bt483 => (if x6_1.length < 17592186044416 then (spec_DrawMeetsAll.l0 k1 (wrap64 (t472 + (wrap64 ((wrap64 (Int.tdiv t474 19)) * 2)))) (x6_1 ++ [wrap64 (bt481.1 - (wrap64 (Int.tdiv bt483.1 39)))]) (wrap64 (x7_1 - 1)) t469 bt483.2) else (none)))) else (none)) = some (r1, r2) := by first | (rw [hji13] at H; exact H) | (simp only [hji13] at H ⊢; exact H)
        have hji13_ : (if 6 < (wrap64 (t472 + (wrap64 ((wrap64 (Int.tdiv t474 19)) * 2)))) then 6 else (wrap64 (t472 + (wrap64 ((wrap64 (Int.tdiv t474 19)) * 2))))) = ji13 := hji13
        have hji13b : ji13 ≤ 6 := by rw [← hji13_]; split <;> omega
        have hji13g : ji13 ≤ 64 := by omega
        by_cases c14 : 0 ≤ (ji13)
        · rw [if_pos c14] at H
          have c14b0 := eq_true c14
          have c14b1 : decide (0 ≤ (ji13)) = true := decide_eq_true c14
          clear c14
          replace H := Option.bind_eq_some_iff.mp H
          obtain ⟨⟨t481, t482⟩, A150, H⟩ := H
          replace H : ((spec_l20Rd_pick.f k1 t469 t482 40).bind fun bt483 => (if x6_1.length < 17592186044416 then (spec_DrawMeetsAll.l0 k1 (wrap64 (t472 + (wrap64 ((wrap64 (Int.tdiv t474 19)) * 2)))) (x6_1 ++ [wrap64 (t481 - (wrap64 (Int.tdiv bt483.1 39)))]) (wrap64 (x7_1 - 1)) t469 bt483.2) else (none))) = some (r1, r2) := H
          have A15 := Aside0.mk A150
          clear A150
          replace H := Option.bind_eq_some_iff.mp H
          obtain ⟨⟨t483, t484⟩, A160, H⟩ := H
          replace H : (if x6_1.length < 17592186044416 then (spec_DrawMeetsAll.l0 k1 (wrap64 (t472 + (wrap64 ((wrap64 (Int.tdiv t474 19)) * 2)))) (x6_1 ++ [wrap64 (t481 - (wrap64 (Int.tdiv t483 39)))]) (wrap64 (x7_1 - 1)) t469 t484) else (none)) = some (r1, r2) := H
          have A16 := Aside0.mk A160
          clear A160
          by_cases c17 : x6_1.length < 17592186044416
          · rw [if_pos c17] at H
            have LMc17 := Aside0.mk c17
            clear c17
            obtain ⟨y485, hy485⟩ : ∃ y_ : List Int, y_ = (x6_1 ++ [wrap64 (t481 - (wrap64 (Int.tdiv t483 39)))]) := ⟨_, rfl⟩
            replace H : (spec_DrawMeetsAll.l0 k1 (wrap64 (t472 + (wrap64 ((wrap64 (Int.tdiv t474 19)) * 2)))) y485 (wrap64 (x7_1 - 1)) t469 t484) = some (r1, r2) := by first | (rw [hy485]; with_reducible exact H) | (have H2_ := (Option.bind_some _ _).symm.trans H; rw [hy485]; with_reducible exact H2_) | (have H2_ := (Option.bind_some _ _).symm.trans H; with_reducible exact H2_) | with_reducible exact H | (rw [hy485]; exact H) | exact H
            have Ny485 := Aside0.mk hy485
            clear hy485
            have H' := Aside0.mk H
            clear H
            go_wp2_with (first | ((with_reducible refine gate_callee (f := 95) rfl ?_); refine goesL_ (some 29) rfl rfl Try.func95 (by kernel_rfl) rfl #[.pointer (some ⟨g471, 0, none⟩), .int .i64 (wrap64 (2 ^ (ji13).toNat))] rfl (by (try simp only [List.map_toArray, List.map_cons, List.map_nil]); first | done | (simp only [hji13]; rfl) | rfl | (simp only [List.length_drop, List.length_take]; rfl)) ?_; (with_reducible refine (spec_l20Rd_pick.calls k1 g471 t469 x472001_1 (wrap64 (2 ^ (ji13).toNat)) t481 t482 w _ ?side1 ?side2 A15.out).mono ?_); (case side1 => repeat (first | (with_reducible first | exact HI471.out | apply IsS68.alloc | apply IsS68.drewN | apply IsS68.drew | apply IsS68.set_1) | exact HI471.out)); (case side2 => repeat (first | (with_reducible first | exact HB.out | apply below_alloc | apply pw_below_drewN | apply below_drew1 | refine below_set ?_ (IsS68.ge HI471.out)) | exact HB.out)); rintro e w18 ⟨rfl, hi, hb, hk⟩; refine ⟨_, rfl, ?_⟩; have n0_ := Aside0.mk (Kd.R_mono (Kd.R_keep (IsS68.apart (show IsS68 w _ g471 t469 x472001_1 from by repeat (first | (with_reducible first | exact HI471.out | apply IsS68.alloc | apply IsS68.drewN | apply IsS68.drew | apply IsS68.set_1) | exact HI471.out)) (by (with_reducible repeat (first | apply Kd.R_alloc | apply Kd.R_drewN | apply Kd.R_drew)); exact HO_6.out) (by decide)) hk (fun _ h => h.2)) (fun _ h => h.1)); have n1_ := Aside0.mk (hb); have n2_ := Aside0.mk (hi); clear HO_6; clear HB; clear HI471; have HO_6 := n0_; have HB := n1_; have HI471 := n2_; clear n0_ n1_ n2_; (try clear hb); (try clear hb2); (try clear hk); (try clear hi)) | ((with_reducible refine gate_callee (f := 95) rfl ?_); refine goesL_ (some 31) rfl rfl Try.func95 (by kernel_rfl) rfl #[.pointer (some ⟨g471, 0, none⟩), .int .i64 40] rfl (by (try simp only [List.map_toArray, List.map_cons, List.map_nil]); first | done | rfl | (simp only [List.length_drop, List.length_take]; rfl)) ?_; (with_reducible refine (spec_l20Rd_pick.calls k1 g471 t469 t482 40 t483 t484 w _ ?side1 ?side2 A16.out).mono ?_); (case side1 => repeat (first | (with_reducible first | exact HI471.out | apply IsS68.alloc | apply IsS68.drewN | apply IsS68.drew | apply IsS68.set_1) | exact HI471.out)); (case side2 => repeat (first | (with_reducible first | exact HB.out | apply below_alloc | apply pw_below_drewN | apply below_drew1 | refine below_set ?_ (IsS68.ge HI471.out)) | exact HB.out)); rintro e w19 ⟨rfl, hi, hb, hk⟩; refine ⟨_, rfl, ?_⟩; have n0_ := Aside0.mk (Kd.R_mono (Kd.R_keep (IsS68.apart (show IsS68 w _ g471 t469 t482 from by repeat (first | (with_reducible first | exact HI471.out | apply IsS68.alloc | apply IsS68.drewN | apply IsS68.drew | apply IsS68.set_1) | exact HI471.out)) (by (with_reducible repeat (first | apply Kd.R_alloc | apply Kd.R_drewN | apply Kd.R_drew)); exact HO_6.out) (by decide)) hk (fun _ h => h.2)) (fun _ h => h.1)); have n1_ := Aside0.mk (hb); have n2_ := Aside0.mk (hi); clear HO_6; clear HB; clear HI471; have HO_6 := n0_; have HB := n1_; have HI471 := n2_; clear n0_ n1_ n2_; (try clear hb); (try clear hb2); (try clear hk); (try clear hi)) | ((with_reducible refine gate_builtin (b := .append) (xs := #[.tmp 24, .tmp 34]) rfl ?_); at_builtin; refine Kd.R_append (Kd.int .i64) (w0 := w) w.heap.size rfl (.tmp 24) (.tmp 34) 22 3 (.int .i64 0) 8 rfl Try.underlying22 info3 rfl (by decide) (by omega) u6 x6_1 (wrap64 (t481 - (wrap64 (Int.tdiv t483 39)))) [.int .i64 (wrap64 (t481 - (wrap64 (Int.tdiv t483 39))))] (fun _ => True) (fun _ => False) rfl rfl ?aP (fun _ hk => hk.elim) ?aF ?aO ?aB ?aS ?aL ?_; (case aP => exact rfl); (case aB => exact (by repeat (first | (with_reducible first | exact HB.out | apply below_alloc | apply pw_below_drewN | apply below_drew1 | refine below_set ?_ (IsS68.ge HI471.out)) | exact HB.out))); (case aF => exact (fun _ _ => trivial)); (case aO => exact (by (with_reducible repeat (first | apply Kd.R_alloc | apply Kd.R_drewN | apply Kd.R_drew)); exact HO_6.out)); (case aS => exact (below_size (by repeat (first | (with_reducible first | exact HB.out | apply below_alloc | apply pw_below_drewN | apply below_drew1 | refine below_set ?_ (IsS68.ge HI471.out)) | exact HB.out)))); (case aL => have := LMc17.out; omega); intro v486 w20 ho hb hg hat; rw [← Ny485.out] at ho; have n0_ := Aside0.mk (IsS68.grown (by repeat (first | (with_reducible first | exact HI471.out | apply IsS68.alloc | apply IsS68.drewN | apply IsS68.drew | apply IsS68.set_1) | exact HI471.out)) hg (IsS68.own_ne HI471.out HO_6.out (by decide))); have n1_ := Aside0.mk (hb); have n2_ := Aside0.mk (ho); clear HI471; clear HB; clear HO_6; have HI471 := n0_; have HB := n1_; have HO487 := n2_; clear n0_ n1_ n2_; clear ho hb hg hat))
            go_roundg k1
            case measure => have := HK1.out; omega
            case rel => exact ⟨(y485), (wrap64 (x7_1 - 1)), (t484), (by first | rfl | (simp; done) | (simp [*]; done)), H', ⟨by have := HK1.out; omega⟩, ⟨by (with_reducible repeat (first | apply Kd.R_alloc | apply Kd.R_drewN | apply Kd.R_drew)); exact HO487.out⟩, ⟨by repeat (first | (with_reducible first | exact HI471.out | apply IsS68.alloc | apply IsS68.drewN | apply IsS68.drew | apply IsS68.set_1) | exact HI471.out)⟩, ⟨by repeat (first | (with_reducible first | exact HB.out | apply below_alloc | apply pw_below_drewN | apply below_drew1 | refine below_set ?_ (IsS68.ge HI471.out)) | exact HB.out)⟩⟩
          · rw [if_neg c17] at H
            exact absurd H (by simp)
        · rw [if_neg c14] at H
          exact absurd H (by simp)
      · rw [if_neg c12] at H
        have c12b0 : decide (0 < x7_1) = false := decide_eq_false c12
        clear c12
        simp only [Option.some.injEq, Prod.mk.injEq] at H
        obtain ⟨rfl, rfl⟩ := H
        go_wp2
        go_ret2
        exact ⟨_, by first | rfl | (simp [errW_none, errW_some] <;> rfl) | (simp [*, errW_none, errW_some] <;> rfl), by (with_reducible repeat (first | apply Kd.R_alloc | apply Kd.R_drewN | apply Kd.R_drew)); exact HO_6.out, by repeat (first | (with_reducible first | exact HB.out | apply below_alloc | apply pw_below_drewN | apply below_drew1 | refine below_set ?_ (IsS68.ge HI471.out)) | exact HB.out)⟩

end Go.Proofs.Yteiehniidihmdaa.P
