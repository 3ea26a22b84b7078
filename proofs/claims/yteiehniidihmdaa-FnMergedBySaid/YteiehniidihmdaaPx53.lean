-- Written by a program of this session (wip/hook.py), which runs the kit's printer; Lean checks it.
import Derived.Test.YteiehniidihmdaaPx0
import Derived.Test.YteiehniidihmdaaPx1
import Derived.Test.YteiehniidihmdaaPx3
import Derived.Test.YteiehniidihmdaaPx6
import Derived.Test.YteiehniidihmdaaPx10
import Derived.Test.YteiehniidihmdaaPx12
namespace Go.Proofs.Yteiehniidihmdaa.P
open Go.RowKit Go.Proofs.YteiehniidihmdaaW.PrintWords Go.Proofs.YteiehniidihmdaaW.PrintLast Go.Proofs.YteiehniidihmdaaW.PrintMore
attribute [local go_sem] max2_int min2_int max_two min_two max_three min_three max_four min_four   -- for this text's walks alone
set_option linter.unusedVariables false
set_option linter.unusedSimpArgs false

/-! ### spec_DrawMergedBy: function 71 -/
def spec_DrawMergedBy.f (k : Nat) (l0 : List Int) : Option (Int × List Int × Int × Int) := (spec_l20Open.f l0).bind fun bt943 => ((spec_l20Minds.f k bt943.1 bt943.2 3 20).bind fun bt946 => ((spec_l20Set.f k bt943.1 bt946.2.2 bt946.1 20).bind fun bt951 => ((spec_l20Rd_pick.f k bt943.1 bt951.2 3).bind fun bt953 => ((spec_l20Rd_pick.f k bt943.1 bt953.2 20).bind fun bt955 => (some (bt946.1, bt946.2.1, bt951.1, wrap64 (bt953.1 + (wrap64 ((wrap64 (Int.tdiv bt955.1 19)) * 3)))))))))
theorem spec_DrawMergedBy.mono : ∀ a0 k, LeO (spec_DrawMergedBy.f k a0) (spec_DrawMergedBy.f (k + 1) a0) := by
  intro a0 k
  unfold spec_DrawMergedBy.f
  repeat' first
      | (with_reducible exact spec_l20Minds.mono _ _ _ _ _)
      | (with_reducible exact spec_l20Rd_pick.mono _ _ _ _)
      | (with_reducible exact spec_l20Set.mono _ _ _ _ _)
      | (with_reducible exact LeO.refl _)
      | (with_reducible exact LeO.none _)
      | (with_reducible refine LeO.ite ?_ ?_)
      | (with_reducible refine LeO.bind ?_ (fun _ => ?_))
      | exact spec_l20Minds.mono _ _ _ _ _
      | exact spec_l20Rd_pick.mono _ _ _ _
      | exact spec_l20Set.mono _ _ _ _ _
      | exact LeO.none _
      | refine LeO.ite ?_ ?_
      | refine LeO.bind ?_ (fun _ => ?_)
set_option maxHeartbeats 8000000 in
set_option maxRecDepth 100000 in
theorem spec_DrawMergedBy.calls (k : Nat) (A0 : Option Addr) (c0 : Nat) (l0 : List Int) (r1 : Int) (r2 : List Int) (r3 : Int) (r4 : Int) (w : World) (hr0 : Kd.C (Kd.int .u8) w A0 l0.length l0) (hc0 : l0.length ≤ c0) (h : spec_DrawMergedBy.f k l0 = some (r1, r2, r3, r4)) :
    Calls Try.prog 71 #[.slice A0 l0.length c0] w fun e w' => ∃ v1_ : Value, e = .returned (.tuple #[.int .i64 r1, v1_, .int .i64 r3, .int .i64 r4]) ∧ Kd.R (Kd.int .i64) 3 w' w.heap.size (fun _ => True) v1_ r2 ∧ Below w.heap.size w w' := by
  have HR0 := Aside0.mk hr0
  have HC0 := Aside0.mk hc0
  clear hr0 hc0
  have HB := Aside0.mk (Below.refl w.heap.size w)
  have H : ((spec_l20Open.f l0).bind fun bt943 => ((spec_l20Minds.f k bt943.1 bt943.2 3 20).bind fun bt946 => ((spec_l20Set.f k bt943.1 bt946.2.2 bt946.1 20).bind fun bt951 => ((spec_l20Rd_pick.f k bt943.1 bt951.2 3).bind fun bt953 => ((spec_l20Rd_pick.f k bt943.1 bt953.2 20).bind fun bt955 => (some (bt946.1, bt946.2.1, bt951.1, wrap64 (bt953.1 + (wrap64 ((wrap64 (Int.tdiv bt955.1 19)) * 3)))))))))) = some (r1, r2, r3, r4) := h
  clear h
  replace H := Option.bind_eq_some_iff.mp H
  obtain ⟨⟨t943, t944⟩, A20, H⟩ := H
  replace H : ((spec_l20Minds.f k t943 t944 3 20).bind fun bt946 => ((spec_l20Set.f k t943 bt946.2.2 bt946.1 20).bind fun bt951 => ((spec_l20Rd_pick.f k t943 bt951.2 3).bind fun bt953 => ((spec_l20Rd_pick.f k t943 bt953.2 20).bind fun bt955 => (some (bt946.1, bt946.2.1, bt951.1, wrap64 (bt953.1 + (wrap64 ((wrap64 (Int.tdiv bt955.1 19)) * 3))))))))) = some (r1, r2, r3, r4) := H
  have A2 := Aside0.mk A20
  clear A20
  replace H := Option.bind_eq_some_iff.mp H
  obtain ⟨⟨t946, t947, t950⟩, A30, H⟩ := H
  replace H : ((spec_l20Set.f k t943 t950 t946 20).bind fun bt951 => ((spec_l20Rd_pick.f k t943 bt951.2 3).bind fun bt953 => ((spec_l20Rd_pick.f k t943 bt953.2 20).bind fun bt955 => (some (t946, t947, bt951.1, wrap64 (bt953.1 + (wrap64 ((wrap64 (Int.tdiv bt955.1 19)) * 3)))))))) = some (r1, r2, r3, r4) := H
  have A3 := Aside0.mk A30
  clear A30
  replace H := Option.bind_eq_some_iff.mp H
  obtain ⟨⟨t951, t952⟩, A40, H⟩ := H
  replace H : ((spec_l20Rd_pick.f k t943 t952 3).bind fun bt953 => ((spec_l20Rd_pick.f k t943 bt953.2 20).bind fun bt955 => (some (t946, t947, t951, wrap64 (bt953.1 + (wrap64 ((wrap64 (Int.tdiv bt955.1 19)) * 3))))))) = some (r1, r2, r3, r4) := H
  have A4 := Aside0.mk A40
  clear A40
  replace H := Option.bind_eq_some_iff.mp H
  obtain ⟨⟨t953, t954⟩, A50, H⟩ := H
  replace H : ((spec_l20Rd_pick.f k t943 t954 20).bind fun bt955 => (some (t946, t947, t951, wrap64 (t953 + (wrap64 ((wrap64 (Int.tdiv bt955.1 19)) * 3)))))) = some (r1, r2, r3, r4) := H
  have A5 := Aside0.mk A50
  clear A50
  replace H := Option.bind_eq_some_iff.mp H
  obtain ⟨⟨t955, t956⟩, A60, H⟩ := H
  replace H : (some (t946, t947, t951, wrap64 (t953 + (wrap64 ((wrap64 (Int.tdiv t955 19)) * 3))))) = some (r1, r2, r3, r4) := H
  have A6 := Aside0.mk A60
  clear A60
  simp only [Option.some.injEq, Prod.mk.injEq] at H
  obtain ⟨rfl, rfl, rfl, rfl⟩ := H
  go_enter Try.func71, Try.ntmps71
  go_wp2_with (first | ((with_reducible refine gate_callee (f := 88) rfl ?_); refine goesL_ (some 10) rfl rfl Try.func88 (by kernel_rfl) rfl #[.slice A0 l0.length c0] rfl (by (try simp only [List.map_toArray, List.map_cons, List.map_nil]); first | done | rfl | (simp only [List.length_drop, List.length_take]; rfl)) ?_; (with_reducible refine (spec_l20Open.calls _ _ l0 t943 t944 w _ ?side1 ?side2 ?side3 A2.out).mono ?_); (case side1 => repeat (first | (with_reducible first | exact HB.out | apply below_alloc | apply pw_below_drewN | apply below_drew1) | exact HB.out)); (case side2 => exact HR0.out); (case side3 => exact HC0.out); rintro e w7 ⟨g945, rfl, hi, hb, hb2⟩; refine ⟨_, rfl, ?_⟩; have n0_ := Aside0.mk (hb); have n1_ := Aside0.mk (hi); clear HB; have HB := n0_; have HI945 := n1_; clear n0_ n1_; (try clear hb); (try clear hb2); (try clear hk); (try clear hi)) | ((with_reducible refine gate_callee (f := 87) rfl ?_); refine goesL_ (some 13) rfl rfl Try.func87 (by kernel_rfl) rfl #[.pointer (some ⟨g945, 0, none⟩), .int .i64 3, .int .i64 20] rfl (by (try simp only [List.map_toArray, List.map_cons, List.map_nil]); first | done | rfl | (simp only [List.length_drop, List.length_take]; rfl)) ?_; (with_reducible refine (spec_l20Minds.calls k g945 t943 t944 3 20 t946 t947 t950 w _ ?side1 ?side2 A3.out).mono ?_); (case side1 => repeat (first | (with_reducible first | exact HI945.out | apply IsS68.alloc | apply IsS68.drewN | apply IsS68.drew | apply IsS68.set_1) | exact HI945.out)); (case side2 => repeat (first | (with_reducible first | exact HB.out | apply below_alloc | apply pw_below_drewN | apply below_drew1 | refine below_set ?_ (IsS68.ge HI945.out)) | exact HB.out)); rintro e w8 ⟨v948, rfl, ho0, hi, hb, hk⟩; refine ⟨_, rfl, ?_⟩; have n0_ := Aside0.mk (Kd.R_lower ho0 (below_size (by repeat (first | (with_reducible first | exact HB.out | apply below_alloc | apply pw_below_drewN | apply below_drew1 | refine below_set ?_ (IsS68.ge HI945.out)) | exact HB.out)))); have n1_ := Aside0.mk (hb); have n2_ := Aside0.mk (hi); clear HB; clear HI945; have HO949 := n0_; have HB := n1_; have HI945 := n2_; clear n0_ n1_ n2_; (try clear hb); (try clear hb2); (try clear hk); (try clear hi); (try clear ho0)) | ((with_reducible refine gate_callee (f := 105) rfl ?_); refine goesL_ (some 20) rfl rfl Try.func105 (by kernel_rfl) rfl #[.pointer (some ⟨g945, 0, none⟩), .int .i64 t946, .int .i64 20] rfl (by (try simp only [List.map_toArray, List.map_cons, List.map_nil]); first | done | rfl | (simp only [List.length_drop, List.length_take]; rfl)) ?_; (with_reducible refine (spec_l20Set.calls k g945 t943 t950 t946 20 t951 t952 w _ ?side1 ?side2 A4.out).mono ?_); (case side1 => repeat (first | (with_reducible first | exact HI945.out | apply IsS68.alloc | apply IsS68.drewN | apply IsS68.drew | apply IsS68.set_1) | exact HI945.out)); (case side2 => repeat (first | (with_reducible first | exact HB.out | apply below_alloc | apply pw_below_drewN | apply below_drew1 | refine below_set ?_ (IsS68.ge HI945.out)) | exact HB.out)); rintro e w9 ⟨rfl, hi, hb, hk⟩; refine ⟨_, rfl, ?_⟩; have n0_ := Aside0.mk (Kd.R_mono (Kd.R_keep (IsS68.apart (show IsS68 w _ g945 t943 t950 from by repeat (first | (with_reducible first | exact HI945.out | apply IsS68.alloc | apply IsS68.drewN | apply IsS68.drew | apply IsS68.set_1) | exact HI945.out)) (by (with_reducible repeat (first | apply Kd.R_alloc | apply Kd.R_drewN | apply Kd.R_drew)); exact HO949.out) (by decide)) hk (fun _ h => h.2)) (fun _ h => h.1)); have n1_ := Aside0.mk (hb); have n2_ := Aside0.mk (hi); clear HO949; clear HB; clear HI945; have HO949 := n0_; have HB := n1_; have HI945 := n2_; clear n0_ n1_ n2_; (try clear hb); (try clear hb2); (try clear hk); (try clear hi)) | ((with_reducible refine gate_callee (f := 95) rfl ?_); refine goesL_ (some 22) rfl rfl Try.func95 (by kernel_rfl) rfl #[.pointer (some ⟨g945, 0, none⟩), .int .i64 3] rfl (by (try simp only [List.map_toArray, List.map_cons, List.map_nil]); first | done | rfl | (simp only [List.length_drop, List.length_take]; rfl)) ?_; (with_reducible refine (spec_l20Rd_pick.calls k g945 t943 t952 3 t953 t954 w _ ?side1 ?side2 A5.out).mono ?_); (case side1 => repeat (first | (with_reducible first | exact HI945.out | apply IsS68.alloc | apply IsS68.drewN | apply IsS68.drew | apply IsS68.set_1) | exact HI945.out)); (case side2 => repeat (first | (with_reducible first | exact HB.out | apply below_alloc | apply pw_below_drewN | apply below_drew1 | refine below_set ?_ (IsS68.ge HI945.out)) | exact HB.out)); rintro e w10 ⟨rfl, hi, hb, hk⟩; refine ⟨_, rfl, ?_⟩; have n0_ := Aside0.mk (Kd.R_mono (Kd.R_keep (IsS68.apart (show IsS68 w _ g945 t943 t952 from by repeat (first | (with_reducible first | exact HI945.out | apply IsS68.alloc | apply IsS68.drewN | apply IsS68.drew | apply IsS68.set_1) | exact HI945.out)) (by (with_reducible repeat (first | apply Kd.R_alloc | apply Kd.R_drewN | apply Kd.R_drew)); exact HO949.out) (by decide)) hk (fun _ h => h.2)) (fun _ h => h.1)); have n1_ := Aside0.mk (hb); have n2_ := Aside0.mk (hi); clear HO949; clear HB; clear HI945; have HO949 := n0_; have HB := n1_; have HI945 := n2_; clear n0_ n1_ n2_; (try clear hb); (try clear hb2); (try clear hk); (try clear hi)) | ((with_reducible refine gate_callee (f := 95) rfl ?_); refine goesL_ (some 24) rfl rfl Try.func95 (by kernel_rfl) rfl #[.pointer (some ⟨g945, 0, none⟩), .int .i64 20] rfl (by (try simp only [List.map_toArray, List.map_cons, List.map_nil]); first | done | rfl | (simp only [List.length_drop, List.length_take]; rfl)) ?_; (with_reducible refine (spec_l20Rd_pick.calls k g945 t943 t954 20 t955 t956 w _ ?side1 ?side2 A6.out).mono ?_); (case side1 => repeat (first | (with_reducible first | exact HI945.out | apply IsS68.alloc | apply IsS68.drewN | apply IsS68.drew | apply IsS68.set_1) | exact HI945.out)); (case side2 => repeat (first | (with_reducible first | exact HB.out | apply below_alloc | apply pw_below_drewN | apply below_drew1 | refine below_set ?_ (IsS68.ge HI945.out)) | exact HB.out)); rintro e w11 ⟨rfl, hi, hb, hk⟩; refine ⟨_, rfl, ?_⟩; have n0_ := Aside0.mk (Kd.R_mono (Kd.R_keep (IsS68.apart (show IsS68 w _ g945 t943 t954 from by repeat (first | (with_reducible first | exact HI945.out | apply IsS68.alloc | apply IsS68.drewN | apply IsS68.drew | apply IsS68.set_1) | exact HI945.out)) (by (with_reducible repeat (first | apply Kd.R_alloc | apply Kd.R_drewN | apply Kd.R_drew)); exact HO949.out) (by decide)) hk (fun _ h => h.2)) (fun _ h => h.1)); have n1_ := Aside0.mk (hb); have n2_ := Aside0.mk (hi); clear HO949; clear HB; clear HI945; have HO949 := n0_; have HB := n1_; have HI945 := n2_; clear n0_ n1_ n2_; (try clear hb); (try clear hb2); (try clear hk); (try clear hi)))
  refine bodyPost_ret (results_list (rs := [.tmp 2, .tmp 3, .tmp 4, .tmp 5]) rfl (by simp) (.tmp (.tmp (.tmp (.tmp .nil))))) rfl ?_
  exact ⟨_, by first | rfl | (simp [errW_none, errW_some] <;> rfl) | (simp [*, errW_none, errW_some] <;> rfl), by (with_reducible repeat (first | apply Kd.R_alloc | apply Kd.R_drewN | apply Kd.R_drew)); exact HO949.out, by repeat (first | (with_reducible first | exact HB.out | apply below_alloc | apply pw_below_drewN | apply below_drew1 | refine below_set ?_ (IsS68.ge HI945.out)) | exact HB.out)⟩

/-! ### impl_surpriseOf: function 118 -/
def impl_surpriseOf.l0 : Nat → Int → Int → List Int → Int → Int → Option (Int)
  | 0, _, _, _, _, _ => none
  | k + 1, x1, x5, x8, x9, x10 => if x10 < x9 then (if 0 ≤ x10 then (if x10 < (x8.length : Int) then (if (Go.bits .and .i64 (shr .i64 x1 x10) 1) = 1 then (impl_surpriseOf.l0 k x1 (mn x5 (rd x8 x10)) x8 x9 (wrap64 (x10 + 1))) else (impl_surpriseOf.l0 k x1 x5 x8 x9 (wrap64 (x10 + 1)))) else (none)) else (none)) else (some x5)
def impl_surpriseOf.f (k : Nat) (l0 : List Int) (a1 : Int) : Option (Int) := impl_surpriseOf.l0 k a1 10 l0 (l0.length : Int) 0
theorem impl_surpriseOf.mono_l : ∀ k, (∀ y0 y1 y2 y3 y4, LeO (impl_surpriseOf.l0 k y0 y1 y2 y3 y4) (impl_surpriseOf.l0 (k + 1) y0 y1 y2 y3 y4))
  | 0 => fun _ _ _ _ _ r h => by simp [impl_surpriseOf.l0] at h
  | k + 1 => by
    have ih0 := impl_surpriseOf.mono_l k
    · intro y0 y1 y2 y3 y4
      unfold impl_surpriseOf.l0
      repeat' first
      | (with_reducible exact ih0 _ _ _ _ _)
      | (with_reducible exact LeO.refl _)
      | (with_reducible exact LeO.none _)
      | (with_reducible refine LeO.ite ?_ ?_)
      | (with_reducible refine LeO.bind ?_ (fun _ => ?_))
      | exact ih0 _ _ _ _ _
      | exact LeO.none _
      | refine LeO.ite ?_ ?_
      | refine LeO.bind ?_ (fun _ => ?_)
theorem impl_surpriseOf.mono : ∀ a0 a1 k, LeO (impl_surpriseOf.f k a0 a1) (impl_surpriseOf.f (k + 1) a0 a1) := by
  intro a0 a1 k
  have ih0 := impl_surpriseOf.mono_l k
  unfold impl_surpriseOf.f
  repeat' first
      | (with_reducible exact ih0 _ _ _ _ _)
      | (with_reducible exact LeO.refl _)
      | (with_reducible exact LeO.none _)
      | (with_reducible refine LeO.ite ?_ ?_)
      | (with_reducible refine LeO.bind ?_ (fun _ => ?_))
      | exact ih0 _ _ _ _ _
      | exact LeO.none _
      | refine LeO.ite ?_ ?_
      | refine LeO.bind ?_ (fun _ => ?_)
set_option maxHeartbeats 8000000 in
set_option maxRecDepth 100000 in
theorem impl_surpriseOf.calls (k : Nat) (A0 : Option Addr) (c0 : Nat) (l0 : List Int) (a1 : Int) (r : Int) (w : World) (hr0 : Kd.C (Kd.int .i64) w A0 l0.length l0) (hc0 : l0.length ≤ c0) (h : impl_surpriseOf.f k l0 a1 = some r) :
    Calls Try.prog 118 #[.slice A0 l0.length c0, .int .i64 a1] w fun e w' => e = .returned (.int .i64 r) ∧ Below w.heap.size w w' := by
  have HR0 := Aside0.mk hr0
  have HC0 := Aside0.mk hc0
  clear hr0 hc0
  have HB := Aside0.mk (Below.refl w.heap.size w)
  have H : (impl_surpriseOf.l0 k a1 10 l0 (l0.length : Int) 0) = some r := h
  clear h
  have H' := Aside0.mk H
  clear H
  go_enter Try.func118, Try.ntmps118
  go_wp2
  go_loopg [5, 10] k (fun kq v5 v10 w' => ∃ (x5_1 : Int) (x10_1 : Int), v5 = .int .i64 x5_1 ∧ v10 = .int .i64 x10_1 ∧ Aside0 (impl_surpriseOf.l0 kq a1 x5_1 l0 (l0.length : Int) x10_1 = some r) ∧ Aside0 (kq ≤ k) ∧ Aside0 (Below w.heap.size w w'))
  case atStart => exact ⟨(10), (0), (by first | rfl | (simp; done) | (simp [*]; done)), (by first | rfl | (simp; done) | (simp [*]; done)), H', ⟨Nat.le_refl _⟩, ⟨by repeat (first | (with_reducible first | exact HB.out | apply below_alloc | apply pw_below_drewN | apply below_drew1) | exact HB.out)⟩⟩
  case round =>
    clear H'
    try clear c1
    try clear p2
    obtain ⟨x5_1, x10_1, rfl, rfl, HA, HK1, HB⟩ := hrel
    cases gk with
    | zero => exact absurd HA.out (by simp [impl_surpriseOf.l0])
    | succ k1 =>
      have H := HA.out
      clear HA
      simp only [impl_surpriseOf.l0] at H
      by_cases c3 : x10_1 < (l0.length : Int)
      · rw [if_pos c3] at H
        have c3b0 : decide (x10_1 < (l0.length : Int)) = true := decide_eq_true c3
        clear c3
        by_cases c4 : 0 ≤ x10_1
        · rw [if_pos c4] at H
          have c4b0 : decide (0 ≤ x10_1) = true := decide_eq_true c4
          clear c4
          by_cases c5 : x10_1 < (l0.length : Int)
          · rw [if_pos c5] at H
            have c5b0 : decide (x10_1 < (l0.length : Int)) = true := decide_eq_true c5
            clear c5
            have c6b0 := eq_true (of_decide_eq_true (by first | (with_reducible assumption) | assumption) : 0 ≤ x10_1)
            obtain ⟨ji7, hji7⟩ : ∃ j_ : Int, (shr .i64 a1 x10_1) = j_ := ⟨_, rfl⟩
            replace H : (if (Go.bits .and .i64 (ji7) 1) = 1 then (impl_surpriseOf.l0 k1 a1 (mn x5_1 (rd l0 x10_1)) l0 (l0.length : Int) (wrap64 (x10_1 + 1))) else (impl_surpriseOf.l0 k1 a1 x5_1 l0 (l0.length : Int) (wrap64 (x10_1 + 1)))) = some r := by first | (rw [hji7] at H; exact H) | (simp only [hji7] at H ⊢; exact H)
            have hji7_ : (a1 / 2 ^ min x10_1.toNat 64) = ji7 := hji7
            have hji7z : x10_1 ≤ 64 → (a1 / 2 ^ x10_1.toNat) = ji7 := shr_small hji7
            by_cases c8 : (Go.bits .and .i64 (ji7) 1) = 1
            · rw [if_pos c8] at H
              have c8b0 : ((Go.bits .and .i64 (ji7) 1) == 1) = true := beq_iff_eq.mpr c8
              have c8b1 : ((Go.bits .and .i64 (ji7) 1) != 1) = false := bne_eq_false_iff_eq.mpr c8
              clear c8
              obtain ⟨ji9, hji9⟩ : ∃ j_ : Int, (mn x5_1 (rd l0 x10_1)) = j_ := ⟨_, rfl⟩
              replace H : (impl_surpriseOf.l0 k1 a1 ji9 l0 (l0.length : Int) (wrap64 (x10_1 + 1))) = some r := by first | (rw [hji9] at H; exact H) | (simp only [hji9] at H ⊢; exact H)
              have hji9_ : (if (rd l0 x10_1) < x5_1 then (rd l0 x10_1) else x5_1) = ji9 := hji9
              have H' := Aside0.mk H
              clear H
              have p957 : 0 ≤ (x10_1 : Int) := of_decide_eq_true (by first | (with_reducible assumption) | assumption)
              have q957 : x10_1 < (l0.length : Int) := of_decide_eq_true (by first | (with_reducible assumption) | assumption)
              obtain ⟨ad957, e957, hx957_0⟩ := Kd.at_int HR0.out x10_1 p957 q957
              cases e957
              replace hx957_0 := (HB.out.cell (World.block_lt_of_cell? w _ hx957_0)).trans hx957_0
              replace p957 := eq_true p957
              replace q957 := eq_true q957
              go_wp2
              go_roundg k1
              case measure => have := HK1.out; omega
              case rel => exact ⟨(ji9), (wrap64 (x10_1 + 1)), (by first | rfl | (simp; done) | (simp only [← hji9] <;> (first | rfl | simp)) | (simp [*]; done)), (by first | rfl | (simp; done) | (simp [*]; done)), H', ⟨by have := HK1.out; omega⟩, ⟨by repeat (first | (with_reducible first | exact HB.out | apply below_alloc | apply pw_below_drewN | apply below_drew1) | exact HB.out)⟩⟩
            · rw [if_neg c8] at H
              have c8b0 : ((Go.bits .and .i64 (ji7) 1) == 1) = false := beq_eq_false_iff_ne.mpr c8
              have c8b1 : ((Go.bits .and .i64 (ji7) 1) != 1) = true := bne_iff_ne.mpr c8
              have H' := Aside0.mk H
              clear H
              have p957 : 0 ≤ (x10_1 : Int) := of_decide_eq_true (by first | (with_reducible assumption) | assumption)
              have q957 : x10_1 < (l0.length : Int) := of_decide_eq_true (by first | (with_reducible assumption) | assumption)
              obtain ⟨ad957, e957, hx957_0⟩ := Kd.at_int HR0.out x10_1 p957 q957
              cases e957
              replace hx957_0 := (HB.out.cell (World.block_lt_of_cell? w _ hx957_0)).trans hx957_0
              replace p957 := eq_true p957
              replace q957 := eq_true q957
              go_wp2
              go_roundg k1
              case measure => have := HK1.out; omega
              case rel => exact ⟨(x5_1), (wrap64 (x10_1 + 1)), (by first | rfl | (simp; done) | (simp [*]; done)), (by first | rfl | (simp; done) | (simp [*]; done)), H', ⟨by have := HK1.out; omega⟩, ⟨by repeat (first | (with_reducible first | exact HB.out | apply below_alloc | apply pw_below_drewN | apply below_drew1) | exact HB.out)⟩⟩
          · rw [if_neg c5] at H
            exact absurd H (by simp)
        · rw [if_neg c4] at H
          exact absurd H (by simp)
      · rw [if_neg c3] at H
        have c3b0 : decide (x10_1 < (l0.length : Int)) = false := decide_eq_false c3
        clear c3
        obtain rfl := Option.some.inj H
        go_wp2
        go_ret
        exact ⟨by first | rfl | (simp [errW_none, errW_some] <;> rfl) | (simp [*, errW_none, errW_some] <;> rfl), by repeat (first | (with_reducible first | exact HB.out | apply below_alloc | apply pw_below_drewN | apply below_drew1) | exact HB.out)⟩

/-! ### impl_setThat: function 119 (by hand) -/
def impl_setThat.l (p : Int → Option Bool) : Nat → Int → Int → Option Int
  | 0, _, s => some s
  | n + 1, x, s => (p x).bind fun b => impl_setThat.l p n (x + 1) (if b = true then Go.bits .or .i64 s (shl .i64 1 x) else s)
def impl_setThat.f (p : Int → Option Bool) (things : Int) : Option Int := if 0 ≤ things then (if things ≤ 3 then impl_setThat.l p (2 ^ things.toNat) 0 0 else none) else none
set_option maxHeartbeats 4000000 in
set_option maxRecDepth 100000 in
theorem impl_setThat.calls (g : Nat) (lb : Array Value) (eg : ∀ args w, (callFunc g args).run Try.prog w = .ok (.enter g args) w) (p : Int → Option Bool)
    (things : Int) (r : Int) (w : World) (hp : Hof.GivesI g lb p w) (h : impl_setThat.f p things = some r) :
    Calls Try.prog 119 #[.int .i64 things, .func (.func g) #[] lb] w fun e w' => e = .returned (.int .i64 r) ∧ Below w.heap.size w w' := by
  have HP := Aside0.mk hp
  clear hp
  have h2 : 0 ≤ things ∧ things ≤ 3 ∧ impl_setThat.l p (2 ^ things.toNat) 0 0 = some r := by
    unfold impl_setThat.f at h
    by_cases a : 0 ≤ things
    · rw [if_pos a] at h
      by_cases b : things ≤ 3
      · rw [if_pos b] at h
        exact ⟨a, b, h⟩
      · rw [if_neg b] at h
        cases h
    · rw [if_neg a] at h
      cases h
  obtain ⟨h0, h3, h⟩ := h2
  obtain ⟨t, rfl⟩ := Int.eq_ofNat_of_zero_le h0
  rw [Int.toNat_natCast] at h
  have hN : ((2 ^ t : Nat) : Int) ≤ 8 ∧ IntKind.i64.wrap (2 ^ min t 64) = ((2 ^ t : Nat) : Int) := by
    rcases (by omega : t = 0 ∨ t = 1 ∨ t = 2 ∨ t = 3) with rfl | rfl | rfl | rfl <;> exact ⟨by decide, by decide +kernel⟩
  obtain ⟨N, eN⟩ : ∃ N : Nat, N = 2 ^ t := ⟨_, rfl⟩
  rw [← eN] at hN h
  obtain ⟨hN8, hN2⟩ := hN
  have hNw : wrap64 (2 ^ min t 64) = (N : Int) := (i64_w _).symm.trans hN2
  have H' : Aside0 (impl_setThat.l p N 0 0 = some r) := ⟨h⟩
  have pb0 := eq_true h0
  clear h h0 h3 eN
  go_enter Try.func119, Try.ntmps119
  go_wp2
  go_loopg [5, 9] N (fun gg s5 s9 wr => ∃ (n : Nat) (x s : Int), 0 ≤ x ∧ x + n = (N : Int) ∧ n ≤ gg ∧ s5 = .int .i64 s ∧ s9 = .int .i64 x ∧ Aside0 (Below w.heap.size w wr) ∧ Aside0 (impl_setThat.l p n x s = some r))
  case atStart => exact ⟨N, 0, 0, by omega, by omega, Nat.le_refl _, rfl, rfl, ⟨Below.refl _ _⟩, H'⟩
  case round =>
    clear H'
    obtain ⟨n, x, s, hx0, hxn, hg, rfl, rfl, HB, HA⟩ := hrel
    cases n with
    | zero =>
      have hge : ¬ x < (N : Int) := by omega
      obtain rfl : s = r := by have := HA.out; simpa [impl_setThat.l] using this
      clear HA hN2 hNw
      go_wp2
      go_ret
      exact ⟨rfl, HB.out⟩
    | succ n =>
      have hlt : x < (N : Int) := by omega
      have hx8 : x ≤ 7 := by omega
      obtain ⟨b, hb, hrest⟩ := Option.bind_eq_some_iff.mp (show ((p x).bind fun b => impl_setThat.l p n (x + 1) (if b = true then Go.bits .or .i64 s (shl .i64 1 x) else s)) = some r from HA.out)
      have hcall := HP.out wr x b HB.out hb
      have HRest := Aside0.mk hrest
      clear hrest hb HA HP hN2 hNw
      have px := eq_true hx0
      cases b with
      | true =>
        obtain ⟨j, hj⟩ : ∃ j : Int, shl .i64 1 x = j := ⟨_, rfl⟩
        have HR2 : Aside0 (impl_setThat.l p n (x + 1) (Go.bits .or .i64 s j) = some r) := ⟨by have := HRest.out; rw [if_pos rfl, hj] at this; exact this⟩
        have hj1 : IntKind.i64.wrap (2 ^ min x.toNat 64) = j := by have h_ : IntKind.i64.wrap (1 * 2 ^ min x.toNat 64) = j := hj; rw [Int.one_mul] at h_; exact h_
        have hj2 : IntKind.i64.wrap (2 ^ x.toNat) = j := by rw [← hj1, show min x.toNat 64 = x.toNat from by omega]
        have hj3 : wrap64 (2 ^ x.toNat) = j := (i64_w _).symm.trans hj2
        have hj4 : wrap64 (2 ^ min x.toNat 64) = j := (i64_w _).symm.trans hj1
        clear hj HRest
        go_wp2_with fail
        refine hcall.mono ?_
        rintro e w' ⟨rfl, hb'⟩
        go_wp2_with fail
        go_roundg n
        case measure => omega
        case rel => exact ⟨n, x + 1, _, by omega, by omega, Nat.le_refl _, (by first | rfl | (simp; done) | (simp [*]; done)), by go_num, ⟨below_then HB.out HB.out.size hb'⟩, HR2⟩
      | false =>
        have HR2 : Aside0 (impl_setThat.l p n (x + 1) s = some r) := ⟨by have := HRest.out; simpa using this⟩
        clear HRest
        go_wp2_with fail
        refine hcall.mono ?_
        rintro e w' ⟨rfl, hb'⟩
        go_wp2_with fail
        go_roundg n
        case measure => omega
        case rel => exact ⟨n, x + 1, _, by omega, by omega, Nat.le_refl _, (by first | rfl | (simp; done) | (simp [*]; done)), by go_num, ⟨below_then HB.out HB.out.size hb'⟩, HR2⟩

/-! ### impl_revisedBy: function 106 (by hand) -/
def impl_revisedBy.p (l1 : List Int) (least x : Int) : Option Bool := if 0 ≤ x then (if x < (l1.length : Int) then some (decide (rd l1 x = least)) else none) else none
def impl_revisedBy.f (k : Nat) (a0 : Int) (l1 : List Int) (a2 : Int) : Option Int := (impl_surpriseOf.f k l1 a2).bind fun s => (impl_setThat.f (impl_revisedBy.p l1 s) a0).bind fun t => some (Go.bits .and .i64 a2 t)
theorem impl_revisedBy.mono : ∀ a0 a1 a2 k, LeO (impl_revisedBy.f k a0 a1 a2) (impl_revisedBy.f (k + 1) a0 a1 a2) := by
  intro a0 a1 a2 k
  unfold impl_revisedBy.f
  exact LeO.bind (impl_surpriseOf.mono _ _ _) (fun b => LeO.refl _)
set_option maxHeartbeats 2000000 in
theorem impl_revisedBy.gives (w : World) (B C : Nat) (A1 : Option Addr) (c1 : Nat) (l1 : List Int) (s : Int) (hr1 : Kd.C (Kd.int .i64) w A1 l1.length l1) (hB : B < w.heap.size) (hC : C < w.heap.size)
    (hd : w.cell? ⟨B, 0, none⟩ = some (.slice A1 l1.length c1)) (he : w.cell? ⟨C, 0, none⟩ = some (.int .i64 s)) :
    Hof.GivesI 120 #[.pointer (some ⟨B, 0, none⟩), .pointer (some ⟨C, 0, none⟩)] (impl_revisedBy.p l1 s) w := fun W x b hb hp => by
  have hd' := (hb.cell (p := ⟨B, 0, none⟩) hB).trans hd
  have he' := (hb.cell (p := ⟨C, 0, none⟩) hC).trans he
  have HBB := Aside0.mk (Below.refl W.heap.size W)
  have HR := Aside0.mk (Kd.C_below hr1 hb)
  clear hd he hb hr1 hB hC
  unfold impl_revisedBy.p at hp
  by_cases h0 : 0 ≤ x
  · rw [if_pos h0] at hp
    by_cases h1 : x < (l1.length : Int)
    · rw [if_pos h1] at hp
      obtain rfl := Option.some.inj hp
      obtain ⟨ad, e, hx⟩ := Kd.at_int HR.out x h0 h1
      cases e
      clear hp
      have p0 := eq_true h0
      have p1 := eq_true h1
      have p0b : decide (0 ≤ x) = true := decide_eq_true h0
      have p1b : decide (x < (l1.length : Int)) = true := decide_eq_true h1
      clear h0 h1
      by_cases hg : rd l1 x = s
      · have hg0 : (rd l1 x == s) = true := beq_iff_eq.mpr hg
        have hg1 : decide (rd l1 x = s) = true := decide_eq_true hg
        clear hg
        go_enter Try.func120, Try.ntmps120
        go_wp2
        repeat (go_quiet (fail); try go_wp2)
        go_ret
        exact ⟨by rw [hg1]; rfl, by repeat (first | (with_reducible first | exact HBB.out | apply below_alloc | apply pw_below_drewN | apply below_drew1) | exact HBB.out)⟩
      · have hg0 : (rd l1 x == s) = false := beq_eq_false_iff_ne.mpr hg
        have hg1 : decide (rd l1 x = s) = false := decide_eq_false hg
        clear hg
        go_enter Try.func120, Try.ntmps120
        go_wp2
        repeat (go_quiet (fail); try go_wp2)
        go_ret
        exact ⟨by rw [hg1]; rfl, by repeat (first | (with_reducible first | exact HBB.out | apply below_alloc | apply pw_below_drewN | apply below_drew1) | exact HBB.out)⟩
    · rw [if_neg h1] at hp
      cases hp
  · rw [if_neg h0] at hp
    cases hp
set_option maxHeartbeats 4000000 in
theorem impl_revisedBy.calls (k : Nat) (a0 : Int) (A1 : Option Addr) (c1 : Nat) (l1 : List Int) (a2 : Int) (r : Int) (w : World) (hr1 : Kd.C (Kd.int .i64) w A1 l1.length l1) (hc1 : l1.length ≤ c1) (h : impl_revisedBy.f k a0 l1 a2 = some r) :
    Calls Try.prog 106 #[.int .i64 a0, .slice A1 l1.length c1, .int .i64 a2] w fun e w' => e = .returned (.int .i64 r) ∧ Below w.heap.size w w' := by
  have HR := Aside0.mk hr1
  have HC1 := Aside0.mk hc1
  have HB := Aside0.mk (Below.refl w.heap.size w)
  unfold impl_revisedBy.f at h
  clear hr1 hc1
  obtain ⟨s, hs, h⟩ := Option.bind_eq_some_iff.mp h
  obtain ⟨t, ht, h⟩ := Option.bind_eq_some_iff.mp h
  obtain rfl := Option.some.inj h
  have HS := Aside0.mk (fun W hR => impl_surpriseOf.calls k A1 c1 l1 a2 s W hR HC1.out hs)
  have HT := Aside0.mk (fun C W hg => impl_setThat.calls 120 #[.pointer (some ⟨w.heap.size, 0, none⟩), .pointer (some ⟨C, 0, none⟩)] (Hof.enters Try.func120 (by kernel_rfl) rfl) (impl_revisedBy.p l1 s) a0 t W hg ht)
  clear h hs ht
  have HW := Aside0.mk (below_alloc HB.out (.cells #[.slice A1 l1.length c1] 22))
  go_enter Try.func106, Try.ntmps106
  go_wp2_with fail
  refine (HS.out _ (Kd.C_below HR.out HW.out)).mono ?_
  rintro e w2 ⟨rfl, hb2⟩
  have c1' : w2.cell? ⟨w.heap.size, 0, none⟩ = some (.slice A1 l1.length c1) := (hb2.cell (p := ⟨w.heap.size, 0, none⟩) (by simp)).trans (by simp)
  have HS2 : Aside0 (w.heap.size < w2.heap.size) := ⟨Nat.lt_of_lt_of_le (by simp) hb2.size⟩
  have HB2 := Aside0.mk (below_then HW.out HW.out.size hb2)
  clear hb2
  have HB3 := fun (u : Value) => Aside0.mk (below_alloc HB2.out (.cells #[u] 3))
  go_wp2_with fail
  refine (HT.out w2.heap.size _ (impl_revisedBy.gives _ w.heap.size w2.heap.size A1 c1 l1 s (Kd.C_below HR.out (HB3 _).out) (by have := HS2.out; simp; omega) (by simp) ?cx (by simp))).mono ?_
  case cx => have := HS2.out; exact (World.cell?_alloc_past _ _ _ this).trans c1'
  rintro e w3 ⟨rfl, hb3⟩
  go_wp2
  go_ret
  exact ⟨rfl, below_then (HB3 _).out (HB3 _).out.size hb3⟩

/-! ### impl_NearestOf: function 72 -/
def impl_NearestOf.j0 : Nat → Int → Int → Int → Bool → Option (Int)
  | 0, _, _, _, _ => none
  | k + 1, x0, x1, x2, x16 => if x16 = true then (some (-1)) else (if x1 = 0 then (some x2) else ((impl_farFrom.f k x0 x1).bind fun t960 => ((impl_revisedBy.f k x0 t960 x2).bind fun t963 => (some t963))))
def impl_NearestOf.f (k : Nat) (a0 : Int) (a1 : Int) (a2 : Int) : Option (Int) := (impl_isSet.f a0 a1).bind fun t958 => (if t958 = true then ((impl_isSet.f a0 a2).bind fun t959 => (impl_NearestOf.j0 k a0 a1 a2 (!t959))) else (impl_NearestOf.j0 k a0 a1 a2 true))
theorem impl_NearestOf.mono_l : ∀ k, (∀ y0 y1 y2 y3, LeO (impl_NearestOf.j0 k y0 y1 y2 y3) (impl_NearestOf.j0 (k + 1) y0 y1 y2 y3))
  | 0 => fun _ _ _ _ r h => by simp [impl_NearestOf.j0] at h
  | k + 1 => by
    have ih0 := impl_NearestOf.mono_l k
    · intro y0 y1 y2 y3
      unfold impl_NearestOf.j0
      repeat' first
      | (with_reducible exact ih0 _ _ _ _)
      | (with_reducible exact impl_farFrom.mono _ _ _)
      | (with_reducible exact impl_revisedBy.mono _ _ _ _)
      | (with_reducible exact LeO.refl _)
      | (with_reducible exact LeO.none _)
      | (with_reducible refine LeO.ite ?_ ?_)
      | (with_reducible refine LeO.bind ?_ (fun _ => ?_))
      | exact ih0 _ _ _ _
      | exact impl_farFrom.mono _ _ _
      | exact impl_revisedBy.mono _ _ _ _
      | exact LeO.none _
      | refine LeO.ite ?_ ?_
      | refine LeO.bind ?_ (fun _ => ?_)
theorem impl_NearestOf.mono : ∀ a0 a1 a2 k, LeO (impl_NearestOf.f k a0 a1 a2) (impl_NearestOf.f (k + 1) a0 a1 a2) := by
  intro a0 a1 a2 k
  have ih0 := impl_NearestOf.mono_l k
  unfold impl_NearestOf.f
  repeat' first
      | (with_reducible exact ih0 _ _ _ _)
      | (with_reducible exact impl_farFrom.mono _ _ _)
      | (with_reducible exact impl_revisedBy.mono _ _ _ _)
      | (with_reducible exact LeO.refl _)
      | (with_reducible exact LeO.none _)
      | (with_reducible refine LeO.ite ?_ ?_)
      | (with_reducible refine LeO.bind ?_ (fun _ => ?_))
      | exact ih0 _ _ _ _
      | exact impl_farFrom.mono _ _ _
      | exact impl_revisedBy.mono _ _ _ _
      | exact LeO.none _
      | refine LeO.ite ?_ ?_
      | refine LeO.bind ?_ (fun _ => ?_)
set_option maxHeartbeats 8000000 in
set_option maxRecDepth 100000 in
theorem impl_NearestOf.calls (k : Nat) (a0 : Int) (a1 : Int) (a2 : Int) (r : Int) (w : World) (h : impl_NearestOf.f k a0 a1 a2 = some r) :
    Calls Try.prog 72 #[.int .i64 a0, .int .i64 a1, .int .i64 a2] w fun e w' => e = .returned (.int .i64 r) ∧ Below w.heap.size w w' := by
  have HB := Aside0.mk (Below.refl w.heap.size w)
  have H : ((impl_isSet.f a0 a1).bind fun t958 => (if t958 = true then ((impl_isSet.f a0 a2).bind fun t959 => (impl_NearestOf.j0 k a0 a1 a2 (!t959))) else (impl_NearestOf.j0 k a0 a1 a2 true))) = some r := h
  clear h
  have HC4 := Aside0.mk H
  clear H
  go_enter Try.func72, Try.ntmps72
  go_upto_region 1 with (fail)
  go_cut [16] (fun v16 wc => ∃ (kq : Nat) (x16_3 : Bool), v16 = .bool x16_3 ∧ Aside0 (impl_NearestOf.j0 kq a0 a1 a2 x16_3 = some r) ∧ Aside0 (kq ≤ k) ∧ Aside0 (Below w.heap.size w wc))
  case first =>
    have H := HC4.out
    clear HC4
    replace H := Option.bind_eq_some_iff.mp H
    obtain ⟨t958, A50, H⟩ := H
    replace H : (if t958 = true then ((impl_isSet.f a0 a2).bind fun t959 => (impl_NearestOf.j0 k a0 a1 a2 (!t959))) else (impl_NearestOf.j0 k a0 a1 a2 true)) = some r := H
    have A5 := Aside0.mk A50
    clear A50
    by_cases c6 : t958 = true
    · subst c6
      have H1 : ((impl_isSet.f a0 a2).bind fun t959 => (impl_NearestOf.j0 k a0 a1 a2 (!t959))) = some r := by rw [if_pos rfl] at H; exact H
      clear H
      have H := H1
      clear H1
      replace H := Option.bind_eq_some_iff.mp H
      obtain ⟨t959, A70, H⟩ := H
      replace H : (impl_NearestOf.j0 k a0 a1 a2 (!t959)) = some r := H
      have A7 := Aside0.mk A70
      clear A70
      have H' := Aside0.mk H
      clear H
      go_wp2_with (first | ((with_reducible refine gate_callee (f := 92) rfl ?_); refine goesL_ (some 9) rfl rfl Try.func92 (by kernel_rfl) rfl #[.int .i64 a0, .int .i64 a1] rfl (by (try simp only [List.map_toArray, List.map_cons, List.map_nil]); first | done | rfl | (simp only [List.length_drop, List.length_take]; rfl)) ?_; (with_reducible refine (impl_isSet.calls a0 a1 true _ A5.out).mono ?_); rintro e w' ⟨rfl, ⟨nd, rfl⟩⟩; refine ⟨_, rfl, ?_⟩) | (go_at_call 92; (with_reducible refine (impl_isSet.calls a0 a2 t959 _ A7.out).mono ?_); rintro e w' ⟨rfl, ⟨nd, rfl⟩⟩))
      go_meet
      case rel => exact ⟨_, (!t959), (by first | rfl | (simp; done) | (simp [*]; done)), H', ⟨by first | omega | exact Nat.le_refl _⟩, ⟨by repeat (first | (with_reducible first | exact HB.out | apply below_alloc | apply pw_below_drewN | apply below_drew1) | exact HB.out)⟩⟩
    · replace c6 := Bool.eq_false_iff.mpr c6
      subst c6
      have H1 : (impl_NearestOf.j0 k a0 a1 a2 true) = some r := by rw [if_neg (show ¬ (false = true) by decide)] at H; exact H
      clear H
      have H := H1
      clear H1
      have H' := Aside0.mk H
      clear H
      go_wp2_with (first | ((with_reducible refine gate_callee (f := 92) rfl ?_); refine goesL_ (some 9) rfl rfl Try.func92 (by kernel_rfl) rfl #[.int .i64 a0, .int .i64 a1] rfl (by (try simp only [List.map_toArray, List.map_cons, List.map_nil]); first | done | rfl | (simp only [List.length_drop, List.length_take]; rfl)) ?_; (with_reducible refine (impl_isSet.calls a0 a1 false _ A5.out).mono ?_); rintro e w' ⟨rfl, ⟨nd, rfl⟩⟩; refine ⟨_, rfl, ?_⟩))
      go_meet
      case rel => exact ⟨_, (true), (by first | rfl | (simp; done) | (simp [*]; done)), H', ⟨by first | omega | exact Nat.le_refl _⟩, ⟨by repeat (first | (with_reducible first | exact HB.out | apply below_alloc | apply pw_below_drewN | apply below_drew1) | exact HB.out)⟩⟩
  case rest =>
    clear HC4
    try clear p2
    try clear c6
    try clear c7
    obtain ⟨kq, x16_3, rfl, HA, HJ3, HB⟩ := hcut
    cases kq with
    | zero => exact absurd HA.out (by simp [impl_NearestOf.j0])
    | succ kj3 =>
      have H := HA.out
      clear HA
      simp only [impl_NearestOf.j0] at H
      by_cases c8 : x16_3 = true
      · subst c8
        have H1 : (some (-1)) = some r := by rw [if_pos rfl] at H; exact H
        clear H
        have H := H1
        clear H1
        obtain rfl := Option.some.inj H
        go_wp2
        go_ret
        exact ⟨by first | rfl | (simp [errW_none, errW_some] <;> rfl) | (simp [*, errW_none, errW_some] <;> rfl), by repeat (first | (with_reducible first | exact HB.out | apply below_alloc | apply pw_below_drewN | apply below_drew1) | exact HB.out)⟩
      · replace c8 := Bool.eq_false_iff.mpr c8
        subst c8
        have H1 : (if a1 = 0 then (some a2) else ((impl_farFrom.f kj3 a0 a1).bind fun t960 => ((impl_revisedBy.f kj3 a0 t960 a2).bind fun t963 => (some t963)))) = some r := by rw [if_neg (show ¬ (false = true) by decide)] at H; exact H
        clear H
        have H := H1
        clear H1
        by_cases c9 : a1 = 0
        · rw [if_pos c9] at H
          have c9b0 : (a1 == 0) = true := beq_iff_eq.mpr c9
          have c9b1 : (a1 != 0) = false := bne_eq_false_iff_eq.mpr c9
          clear c9
          obtain rfl := Option.some.inj H
          go_wp2
          go_ret
          exact ⟨by first | rfl | (simp [errW_none, errW_some] <;> rfl) | (simp [*, errW_none, errW_some] <;> rfl), by repeat (first | (with_reducible first | exact HB.out | apply below_alloc | apply pw_below_drewN | apply below_drew1) | exact HB.out)⟩
        · rw [if_neg c9] at H
          have c9b0 : (a1 == 0) = false := beq_eq_false_iff_ne.mpr c9
          have c9b1 : (a1 != 0) = true := bne_iff_ne.mpr c9
          replace H := Option.bind_eq_some_iff.mp H
          obtain ⟨t960, A100, H⟩ := H
          replace H : ((impl_revisedBy.f kj3 a0 t960 a2).bind fun t963 => (some t963)) = some r := H
          have A10 := Aside0.mk A100
          clear A100
          replace H := Option.bind_eq_some_iff.mp H
          obtain ⟨t963, A110, H⟩ := H
          replace H : (some t963) = some r := H
          have A11 := Aside0.mk A110
          clear A110
          obtain rfl := Option.some.inj H
          go_wp2_with (first | ((with_reducible refine gate_callee (f := 107) rfl ?_); refine goesL_ (some 23) rfl rfl Try.func107 (by kernel_rfl) rfl #[.int .i64 a0, .int .i64 a1] rfl (by (try simp only [List.map_toArray, List.map_cons, List.map_nil]); first | done | rfl | (simp only [List.length_drop, List.length_take]; rfl)) ?_; (with_reducible refine (impl_farFrom.calls kj3 a0 a1 t960 _ A10.out).mono ?_); rintro e w12 ⟨v961, rfl, ho0, hb⟩; refine ⟨_, rfl, ?_⟩; have n0_ := Aside0.mk (Kd.R_lower ho0 (below_size (by repeat (first | (with_reducible first | exact HB.out | apply below_alloc | apply pw_below_drewN | apply below_drew1) | exact HB.out)))); have n1_ := Aside0.mk (below_step (by repeat (first | (with_reducible first | exact HB.out | apply below_alloc | apply pw_below_drewN | apply below_drew1) | exact HB.out)) hb); clear HB; have HO962 := n0_; have HB := n1_; clear n0_ n1_; (try clear hb); (try clear hb2); (try clear hk); (try clear hi); (try clear ho0); obtain ⟨Ao13, co13, eo13⟩ := Kd.R_slice HO962.out; subst eo13) | ((with_reducible refine gate_callee (f := 106) rfl ?_); refine goesL_ (some 25) rfl rfl Try.func106 (by kernel_rfl) rfl #[.int .i64 a0, .slice Ao13 t960.length co13, .int .i64 a2] rfl (by (try simp only [List.map_toArray, List.map_cons, List.map_nil]); first | done | rfl | (simp only [List.length_drop, List.length_take]; rfl)) ?_; (with_reducible refine (impl_revisedBy.calls kj3 a0 _ _ t960 a2 t963 _ ?side1 ?side2 A11.out).mono ?_); (case side1 => repeat (first | exact (Kd.R_reads' HO962.out).2.2 | (with_reducible refine Kd.C_alloc ?_ _) | (with_reducible refine Kd.C_drewN ?_ _) | (with_reducible refine Kd.C_drew ?_))); (case side2 => exact (Kd.R_reads' HO962.out).2.1); rintro e w14 ⟨rfl, hb⟩; refine ⟨_, rfl, ?_⟩; have n0_ := Aside0.mk (Kd.R_below (by (with_reducible repeat (first | apply Kd.R_alloc | apply Kd.R_drewN | apply Kd.R_drew)); exact HO962.out) hb); have n1_ := Aside0.mk (below_step (by repeat (first | (with_reducible first | exact HB.out | apply below_alloc | apply pw_below_drewN | apply below_drew1) | exact HB.out)) hb); clear HO962; clear HB; have HO962 := n0_; have HB := n1_; clear n0_ n1_; (try clear hb); (try clear hb2); (try clear hk); (try clear hi)))
          go_ret
          exact ⟨by first | rfl | (simp [errW_none, errW_some] <;> rfl) | (simp [*, errW_none, errW_some] <;> rfl), by repeat (first | (with_reducible first | exact HB.out | apply below_alloc | apply pw_below_drewN | apply below_drew1) | exact HB.out)⟩

end Go.Proofs.Yteiehniidihmdaa.P
