-- Written by a program of this session (wip/hook.py), which runs the kit's printer; Lean checks it.
import Derived.Test.YtihgpkohglcijaaPx0
import Derived.Test.YtihgpkohglcijaaPx5
import Derived.Test.YtihgpkohglcijaaPx7
import Derived.Test.YtihgpkohglcijaaPx16
import Derived.Test.YtihgpkohglcijaaPx17
import Derived.Test.YtihgpkohglcijaaPx18
namespace Go.Proofs.Ytihgpkohglcijaa.P
open Go.RowKit Go.Proofs.YtihgpkohglcijaaW.PrintWords Go.Proofs.YtihgpkohglcijaaW.PrintLast Go.Proofs.YtihgpkohglcijaaW.PrintMore
attribute [local go_sem] max2_int min2_int max_two min_two max_three min_three max_four min_four   -- for this text's walks alone
set_option linter.unusedVariables false
set_option linter.unusedSimpArgs false

/-! ### laws_FnMindNew: function 13 -/
def laws_FnMindNew.f (k : Nat) (l0 : List Int) : Option (Bool) := if (l0.length : Int) > 1048576 then (some true) else ((spec_DrawMindNew.f k l0).bind fun bt773 => ((impl_MindNew.f k bt773.1 bt773.2).bind fun bt777 => ((spec_MindNew.f k bt773.1 bt773.2).bind fun bt785 => ((laws_sameMind.f k bt777.1 bt777.2.1 bt777.2.2 bt785.1 bt785.2.1 bt785.2.2).bind fun t792 => (if t792 = true then ((spec_RankOk.f k bt773.1 bt773.2).bind fun t793 => (if t793 = true then ((impl_MindValid.f k bt777.1 bt777.2.1 bt777.2.2).bind fun t794 => (if t794 = true then ((impl_SameOrder.f k bt773.1 bt777.2.1 bt773.2).bind fun t795 => (if t795 = true then (some ((bt777.2.2.length : Int) == 0)) else (some false))) else (some false))) else ((laws_noMind.f k bt777.1 bt777.2.1 bt777.2.2).bind fun t796 => (if t796 = true then ((laws_alive.f).bind fun t797 => (some t797)) else (some false))))) else (some false))))))
theorem laws_FnMindNew.mono : ∀ a0 k, LeO (laws_FnMindNew.f k a0) (laws_FnMindNew.f (k + 1) a0) := by
  intro a0 k
  unfold laws_FnMindNew.f
  repeat' first
      | (with_reducible exact impl_MindNew.mono _ _ _)
      | (with_reducible exact impl_MindValid.mono _ _ _ _)
      | (with_reducible exact impl_SameOrder.mono _ _ _ _)
      | (with_reducible exact laws_noMind.mono _ _ _ _)
      | (with_reducible exact laws_sameMind.mono _ _ _ _ _ _ _)
      | (with_reducible exact spec_DrawMindNew.mono _ _)
      | (with_reducible exact spec_MindNew.mono _ _ _)
      | (with_reducible exact spec_RankOk.mono _ _ _)
      | (with_reducible exact LeO.refl _)
      | (with_reducible exact LeO.none _)
      | (with_reducible refine LeO.ite ?_ ?_)
      | (with_reducible refine LeO.bind ?_ (fun _ => ?_))
      | exact impl_MindNew.mono _ _ _
      | exact impl_MindValid.mono _ _ _ _
      | exact impl_SameOrder.mono _ _ _ _
      | exact laws_noMind.mono _ _ _ _
      | exact laws_sameMind.mono _ _ _ _ _ _ _
      | exact spec_DrawMindNew.mono _ _
      | exact spec_MindNew.mono _ _ _
      | exact spec_RankOk.mono _ _ _
      | exact LeO.none _
      | refine LeO.ite ?_ ?_
      | refine LeO.bind ?_ (fun _ => ?_)
set_option maxHeartbeats 8000000 in
set_option maxRecDepth 100000 in
theorem laws_FnMindNew.calls (k : Nat) (A0 : Option Addr) (c0 : Nat) (l0 : List Int) (r : Bool) (w : World) (hr0 : Kd.C (Kd.int .u8) w A0 l0.length l0) (hc0 : l0.length ≤ c0) (h : laws_FnMindNew.f k l0 = some r) :
    Calls Try.prog 13 #[.slice A0 l0.length c0] w fun e w' => e = .returned (.bool r) ∧ Below w.heap.size w w' := by
  have hu58 := Try.underlying58
  have HR0 := Aside0.mk hr0
  have HC0 := Aside0.mk hc0
  clear hr0 hc0
  have HB := Aside0.mk (Below.refl w.heap.size w)
  have H : (if (l0.length : Int) > 1048576 then (some true) else ((spec_DrawMindNew.f k l0).bind fun bt773 => ((impl_MindNew.f k bt773.1 bt773.2).bind fun bt777 => ((spec_MindNew.f k bt773.1 bt773.2).bind fun bt785 => ((laws_sameMind.f k bt777.1 bt777.2.1 bt777.2.2 bt785.1 bt785.2.1 bt785.2.2).bind fun t792 => (if t792 = true then ((spec_RankOk.f k bt773.1 bt773.2).bind fun t793 => (if t793 = true then ((impl_MindValid.f k bt777.1 bt777.2.1 bt777.2.2).bind fun t794 => (if t794 = true then ((impl_SameOrder.f k bt773.1 bt777.2.1 bt773.2).bind fun t795 => (if t795 = true then (some ((bt777.2.2.length : Int) == 0)) else (some false))) else (some false))) else ((laws_noMind.f k bt777.1 bt777.2.1 bt777.2.2).bind fun t796 => (if t796 = true then ((laws_alive.f).bind fun t797 => (some t797)) else (some false))))) else (some false))))))) = some r := h
  clear h
  by_cases c2 : (l0.length : Int) > 1048576
  · rw [if_pos c2] at H
    have c2b0 : decide (1048576 < (l0.length : Int)) = true := decide_eq_true c2
    have c2b1 : decide (1048576 < l0.length) = true := decide_eq_true (by omega)
    clear c2
    obtain rfl := Option.some.inj H
    go_enter Try.func13, Try.ntmps13
    go_wp2
    go_ret
    exact ⟨by first | rfl | (simp [errW_none, errW_some] <;> rfl) | (simp [*, errW_none, errW_some] <;> rfl), by repeat (first | (with_reducible first | exact HB.out | apply below_alloc | apply pw_below_drewN | apply below_drew1) | exact HB.out)⟩
  · rw [if_neg c2] at H
    have c2b0 : decide (1048576 < (l0.length : Int)) = false := decide_eq_false c2
    have c2b1 : decide (1048576 < l0.length) = false := decide_eq_false (by omega)
    clear c2
    replace H := Option.bind_eq_some_iff.mp H
    obtain ⟨⟨t773, t774⟩, A30, H⟩ := H
    replace H : ((impl_MindNew.f k t773 t774).bind fun bt777 => ((spec_MindNew.f k t773 t774).bind fun bt785 => ((laws_sameMind.f k bt777.1 bt777.2.1 bt777.2.2 bt785.1 bt785.2.1 bt785.2.2).bind fun t792 => (if t792 = true then ((spec_RankOk.f k t773 t774).bind fun t793 => (if t793 = true then ((impl_MindValid.f k bt777.1 bt777.2.1 bt777.2.2).bind fun t794 => (if t794 = true then ((impl_SameOrder.f k t773 bt777.2.1 t774).bind fun t795 => (if t795 = true then (some ((bt777.2.2.length : Int) == 0)) else (some false))) else (some false))) else ((laws_noMind.f k bt777.1 bt777.2.1 bt777.2.2).bind fun t796 => (if t796 = true then ((laws_alive.f).bind fun t797 => (some t797)) else (some false))))) else (some false))))) = some r := H
    have A3 := Aside0.mk A30
    clear A30
    replace H := Option.bind_eq_some_iff.mp H
    obtain ⟨⟨t777, t778, t781⟩, A40, H⟩ := H
    replace H : ((spec_MindNew.f k t773 t774).bind fun bt785 => ((laws_sameMind.f k t777 t778 t781 bt785.1 bt785.2.1 bt785.2.2).bind fun t792 => (if t792 = true then ((spec_RankOk.f k t773 t774).bind fun t793 => (if t793 = true then ((impl_MindValid.f k t777 t778 t781).bind fun t794 => (if t794 = true then ((impl_SameOrder.f k t773 t778 t774).bind fun t795 => (if t795 = true then (some ((t781.length : Int) == 0)) else (some false))) else (some false))) else ((laws_noMind.f k t777 t778 t781).bind fun t796 => (if t796 = true then ((laws_alive.f).bind fun t797 => (some t797)) else (some false))))) else (some false)))) = some r := H
    have A4 := Aside0.mk A40
    clear A40
    replace H := Option.bind_eq_some_iff.mp H
    obtain ⟨⟨t785, t786, t789⟩, A50, H⟩ := H
    replace H : ((laws_sameMind.f k t777 t778 t781 t785 t786 t789).bind fun t792 => (if t792 = true then ((spec_RankOk.f k t773 t774).bind fun t793 => (if t793 = true then ((impl_MindValid.f k t777 t778 t781).bind fun t794 => (if t794 = true then ((impl_SameOrder.f k t773 t778 t774).bind fun t795 => (if t795 = true then (some ((t781.length : Int) == 0)) else (some false))) else (some false))) else ((laws_noMind.f k t777 t778 t781).bind fun t796 => (if t796 = true then ((laws_alive.f).bind fun t797 => (some t797)) else (some false))))) else (some false))) = some r := H
    have A5 := Aside0.mk A50
    clear A50
    replace H := Option.bind_eq_some_iff.mp H
    obtain ⟨t792, A60, H⟩ := H
    replace H : (if t792 = true then ((spec_RankOk.f k t773 t774).bind fun t793 => (if t793 = true then ((impl_MindValid.f k t777 t778 t781).bind fun t794 => (if t794 = true then ((impl_SameOrder.f k t773 t778 t774).bind fun t795 => (if t795 = true then (some ((t781.length : Int) == 0)) else (some false))) else (some false))) else ((laws_noMind.f k t777 t778 t781).bind fun t796 => (if t796 = true then ((laws_alive.f).bind fun t797 => (some t797)) else (some false))))) else (some false)) = some r := H
    have A6 := Aside0.mk A60
    clear A60
    by_cases c7 : t792 = true
    · subst c7
      have H1 : ((spec_RankOk.f k t773 t774).bind fun t793 => (if t793 = true then ((impl_MindValid.f k t777 t778 t781).bind fun t794 => (if t794 = true then ((impl_SameOrder.f k t773 t778 t774).bind fun t795 => (if t795 = true then (some ((t781.length : Int) == 0)) else (some false))) else (some false))) else ((laws_noMind.f k t777 t778 t781).bind fun t796 => (if t796 = true then ((laws_alive.f).bind fun t797 => (some t797)) else (some false))))) = some r := by rw [if_pos rfl] at H; exact H
      clear H
      have H := H1
      clear H1
      replace H := Option.bind_eq_some_iff.mp H
      obtain ⟨t793, A80, H⟩ := H
      replace H : (if t793 = true then ((impl_MindValid.f k t777 t778 t781).bind fun t794 => (if t794 = true then ((impl_SameOrder.f k t773 t778 t774).bind fun t795 => (if t795 = true then (some ((t781.length : Int) == 0)) else (some false))) else (some false))) else ((laws_noMind.f k t777 t778 t781).bind fun t796 => (if t796 = true then ((laws_alive.f).bind fun t797 => (some t797)) else (some false)))) = some r := H
      have A8 := Aside0.mk A80
      clear A80
      by_cases c9 : t793 = true
      · subst c9
        have H1 : ((impl_MindValid.f k t777 t778 t781).bind fun t794 => (if t794 = true then ((impl_SameOrder.f k t773 t778 t774).bind fun t795 => (if t795 = true then (some ((t781.length : Int) == 0)) else (some false))) else (some false))) = some r := by rw [if_pos rfl] at H; exact H
        clear H
        have H := H1
        clear H1
        replace H := Option.bind_eq_some_iff.mp H
        obtain ⟨t794, A100, H⟩ := H
        replace H : (if t794 = true then ((impl_SameOrder.f k t773 t778 t774).bind fun t795 => (if t795 = true then (some ((t781.length : Int) == 0)) else (some false))) else (some false)) = some r := H
        have A10 := Aside0.mk A100
        clear A100
        by_cases c11 : t794 = true
        · subst c11
          have H1 : ((impl_SameOrder.f k t773 t778 t774).bind fun t795 => (if t795 = true then (some ((t781.length : Int) == 0)) else (some false))) = some r := by rw [if_pos rfl] at H; exact H
          clear H
          have H := H1
          clear H1
          replace H := Option.bind_eq_some_iff.mp H
          obtain ⟨t795, A120, H⟩ := H
          replace H : (if t795 = true then (some ((t781.length : Int) == 0)) else (some false)) = some r := H
          have A12 := Aside0.mk A120
          clear A120
          by_cases c13 : t795 = true
          · subst c13
            have H1 : (some ((t781.length : Int) == 0)) = some r := by rw [if_pos rfl] at H; exact H
            clear H
            have H := H1
            clear H1
            obtain rfl := Option.some.inj H
            go_enter Try.func13, Try.ntmps13
            try go_wp2_with (first | ((with_reducible refine gate_callee (f := 57) rfl ?_); refine goesL_ (some 11) rfl rfl Try.func57 (by kernel_rfl) rfl #[.slice A0 l0.length c0] rfl (by (try simp only [List.map_toArray, List.map_cons, List.map_nil]); first | done | rfl | (simp only [List.length_drop, List.length_take]; rfl)) ?_; (with_reducible refine (spec_DrawMindNew.calls k _ _ l0 t773 t774 _ ?side1 ?side2 A3.out).mono ?_); (case side1 => repeat (first | exact HR0.out | (with_reducible refine Kd.C_alloc ?_ _) | (with_reducible refine Kd.C_drewN ?_ _) | (with_reducible refine Kd.C_drew ?_))); (case side2 => exact HC0.out); rintro e w14 ⟨v775, rfl, ho0, hb⟩; refine ⟨_, rfl, ?_⟩; have n0_ := Aside0.mk (Kd.R_lower ho0 (below_size (by repeat (first | (with_reducible first | exact HB.out | apply below_alloc | apply pw_below_drewN | apply below_drew1) | exact HB.out)))); have n1_ := Aside0.mk (below_step (by repeat (first | (with_reducible first | exact HB.out | apply below_alloc | apply pw_below_drewN | apply below_drew1) | exact HB.out)) hb); clear HB; have HO776 := n0_; have HB := n1_; clear n0_ n1_; (try clear hb); (try clear hb2); (try clear hk); (try clear hi); (try clear ho0); obtain ⟨Ao15, co15, eo15⟩ := Kd.R_slice HO776.out; subst eo15) | ((with_reducible refine gate_callee (f := 44) rfl ?_); refine goesL_ (some 16) rfl rfl Try.func44 (by kernel_rfl) rfl #[.int .i64 t773, .slice Ao15 t774.length co15] rfl (by (try simp only [List.map_toArray, List.map_cons, List.map_nil]); first | done | rfl | (simp only [List.length_drop, List.length_take]; rfl)) ?_; (with_reducible refine (impl_MindNew.calls k t773 _ _ t774 t777 t778 t781 _ ?side1 ?side2 A4.out).mono ?_); (case side1 => repeat (first | exact (Kd.R_reads' HO776.out).2.2 | (with_reducible refine Kd.C_alloc ?_ _) | (with_reducible refine Kd.C_drewN ?_ _) | (with_reducible refine Kd.C_drew ?_))); (case side2 => exact (Kd.R_reads' HO776.out).2.1); rintro e w16 ⟨v779, v782, rfl, ho0, ho1, hb⟩; refine ⟨_, rfl, ?_⟩; have n0_ := Aside0.mk (Kd.R_elder' (by (with_reducible repeat (first | apply Kd.R_alloc | apply Kd.R_drewN | apply Kd.R_drew)); exact HO776.out) (Kd.R_base ho0) hb); have n1_ := Aside0.mk (Kd.R_lower (Kd.R_new' ho0 (Kd.R_lt (by (with_reducible repeat (first | apply Kd.R_alloc | apply Kd.R_drewN | apply Kd.R_drew)); exact HO776.out))) (below_size (by repeat (first | (with_reducible first | exact HB.out | apply below_alloc | apply pw_below_drewN | apply below_drew1) | exact HB.out)))); have n2_ := Aside0.mk (Kd.S_lower (Kd.S_new' ho1 (Kd.R_lt (by (with_reducible repeat (first | apply Kd.R_alloc | apply Kd.R_drewN | apply Kd.R_drew)); exact HO776.out))) (below_size (by repeat (first | (with_reducible first | exact HB.out | apply below_alloc | apply pw_below_drewN | apply below_drew1) | exact HB.out)))); have n3_ := Aside0.mk (below_step (by repeat (first | (with_reducible first | exact HB.out | apply below_alloc | apply pw_below_drewN | apply below_drew1) | exact HB.out)) hb); clear HO776; clear HB; have HO776 := n0_; have HO780 := n1_; have HO783 := n2_; have HB := n3_; clear n0_ n1_ n2_ n3_; (try clear hb); (try clear hb2); (try clear hk); (try clear hi); (try clear ho0); (try clear ho1)) | ((with_reducible refine gate_dst (N := 5) rfl ?_); (try (refine gate_guard (by rfl) ?_; dsimp only)); refine box_event ?hg (N := 5) ?hd (cs := #[.int .i64 0, .slice none 0 0, .slice none 0 0]) (t := 58) ?hr ?_; (case hd => rfl); (case hg => rfl); (case hr => first | (go_simp; done) | (go_simp; rfl)); intro gb784 hg w17 hbox hb; have n0_ := Aside0.mk (Kd.R_below (by (with_reducible repeat (first | apply Kd.R_alloc | apply Kd.R_drewN | apply Kd.R_drew)); exact HO776.out) hb); have n1_ := Aside0.mk (Kd.R_below (by (with_reducible repeat (first | apply Kd.R_alloc | apply Kd.R_drewN | apply Kd.R_drew)); exact HO780.out) hb); have n2_ := Aside0.mk (Kd.S_below (by (with_reducible repeat (first | apply Kd.S_alloc | apply Kd.S_drewN | apply Kd.S_drew)); exact HO783.out) hb); have n3_ := Aside0.mk (below_step (by repeat (first | (with_reducible first | exact HB.out | apply below_alloc | apply pw_below_drewN | apply below_drew1) | exact HB.out)) hb); have n4_ := Aside0.mk (hbox); have n5_ := Aside0.mk ((by rw [hg]; exact (below_size (by repeat (first | (with_reducible first | exact HB.out | apply below_alloc | apply pw_below_drewN | apply below_drew1) | exact HB.out))) : w.heap.size ≤ gb784)); have n6_ := Aside0.mk ((by rw [hg]; exact (below_size (by repeat (first | (with_reducible first | exact HB.out | apply below_alloc | apply pw_below_drewN | apply below_drew1) | exact HB.out))) : w.heap.size ≤ gb784)); clear HO776; clear HO780; clear HO783; clear HB; have HO776 := n0_; have HO780 := n1_; have HO783 := n2_; have HB := n3_; have BK784 := n4_; have GW784 := n5_; have GE784 := n6_; clear n0_ n1_ n2_ n3_ n4_ n5_ n6_; clear hb hbox hg; have hcz18_0 : w17.cell? ⟨gb784, 0, none⟩ = some (.int .i64 0) := (blk_cell BK784.out 0).trans rfl; have hcz18_1 : w17.cell? ⟨gb784, 1, none⟩ = some (.slice none 0 0) := (blk_cell BK784.out 1).trans rfl; have hcz18_2 : w17.cell? ⟨gb784, 2, none⟩ = some (.slice none 0 0) := (blk_cell BK784.out 2).trans rfl; have hfz18_0 := blk_frozen BK784.out 0; have hfz18_1 := blk_frozen BK784.out 1; have hfz18_2 := blk_frozen BK784.out 2; obtain ⟨Ao19, co19, eo19⟩ := Kd.R_slice HO780.out; subst eo19; obtain ⟨Ao20, co20, eo20⟩ := Kd.S_slice HO783.out; subst eo20))
            have n0_ : Aside0 (Kd.R (Kd.int .i64) 3 (((w17.setCell ⟨gb784, 0, none⟩ (.int .i64 t777)).setCell ⟨gb784, 1, none⟩ (.slice Ao19 t778.length co19)).setCell ⟨gb784, 2, none⟩ (.slice Ao20 t781.length co20)) w.heap.size (fun k_ => some k_ ≠ (.slice Ao19 t778.length co19 : Value).ownBlock) (.slice Ao15 t774.length co15) t774) := ⟨by (with_reducible repeat (first | apply Kd.R_alloc | apply Kd.R_drewN | apply Kd.R_drew)); exact Kd.R_mono (Kd.R_far (p := ⟨gb784, 2, none⟩) (Kd.R_far (p := ⟨gb784, 1, none⟩) (Kd.R_far (p := ⟨gb784, 0, none⟩) (Kd.R_types HO776.out BK784.out (by decide)) (fun _ hk => hk.2) (.int .i64 t777)) (fun _ hk => hk.2) (.slice Ao19 t778.length co19)) (fun _ hk => hk.2) (.slice Ao20 t781.length co20)) (fun _ hk => hk.1.2)⟩
            have n1_ : Aside0 (Kd.R (Kd.int .i64) 3 (((w17.setCell ⟨gb784, 0, none⟩ (.int .i64 t777)).setCell ⟨gb784, 1, none⟩ (.slice Ao19 t778.length co19)).setCell ⟨gb784, 2, none⟩ (.slice Ao20 t781.length co20)) w.heap.size (fun k_ => some k_ ≠ (.slice Ao15 t774.length co15 : Value).ownBlock) (.slice Ao19 t778.length co19) t778) := ⟨by (with_reducible repeat (first | apply Kd.R_alloc | apply Kd.R_drewN | apply Kd.R_drew)); exact Kd.R_mono (Kd.R_far (p := ⟨gb784, 2, none⟩) (Kd.R_far (p := ⟨gb784, 1, none⟩) (Kd.R_far (p := ⟨gb784, 0, none⟩) (Kd.R_types HO780.out BK784.out (by decide)) (fun _ hk => hk.2) (.int .i64 t777)) (fun _ hk => hk.2) (.slice Ao19 t778.length co19)) (fun _ hk => hk.2) (.slice Ao20 t781.length co20)) (fun _ hk => hk.1.2)⟩
            have n2_ : Aside0 (Kd.S (Kd.slice 3 (Kd.int .i64)) 55 (((w17.setCell ⟨gb784, 0, none⟩ (.int .i64 t777)).setCell ⟨gb784, 1, none⟩ (.slice Ao19 t778.length co19)).setCell ⟨gb784, 2, none⟩ (.slice Ao20 t781.length co20)) w.heap.size (fun k_ => some k_ ≠ (.slice Ao15 t774.length co15 : Value).ownBlock ∧ some k_ ≠ (.slice Ao19 t778.length co19 : Value).ownBlock) (.slice Ao20 t781.length co20) t781) := ⟨by (with_reducible repeat (first | apply Kd.S_alloc | apply Kd.S_drewN | apply Kd.S_drew)); exact Kd.S_mono (Kd.S_far (p := ⟨gb784, 2, none⟩) (Kd.S_far (p := ⟨gb784, 1, none⟩) (Kd.S_far (p := ⟨gb784, 0, none⟩) (Kd.S_types HO783.out BK784.out (by decide)) (fun _ hk => hk.2) (.int .i64 t777)) (fun _ hk => hk.2) (.slice Ao19 t778.length co19)) (fun _ hk => hk.2) (.slice Ao20 t781.length co20)) (fun _ hk => ⟨hk.1.2, hk.1.1⟩)⟩
            have n3_ : Aside0 ((((w17.setCell ⟨gb784, 0, none⟩ (.int .i64 t777)).setCell ⟨gb784, 1, none⟩ (.slice Ao19 t778.length co19)).setCell ⟨gb784, 2, none⟩ (.slice Ao20 t781.length co20)).heap[gb784]? = some (.cells #[.int .i64 t777, .slice Ao19 t778.length co19, .slice Ao20 t781.length co20] 58 (0, 0))) := ⟨by (with_reducible repeat (first | refine blk_drewN ?_ _ | refine blk_drew ?_ | refine blk_alloc ?_ _)); refine blk_put (cs := #[.int .i64 t777, .slice Ao19 t778.length co19, .slice none 0 0]) ?_ 2 _ rfl; (with_reducible repeat (first | refine blk_drewN ?_ _ | refine blk_drew ?_ | refine blk_alloc ?_ _)); refine blk_put (cs := #[.int .i64 t777, .slice none 0 0, .slice none 0 0]) ?_ 1 _ rfl; (with_reducible repeat (first | refine blk_drewN ?_ _ | refine blk_drew ?_ | refine blk_alloc ?_ _)); refine blk_put (cs := #[.int .i64 0, .slice none 0 0, .slice none 0 0]) ?_ 0 _ rfl; (with_reducible repeat (first | refine blk_drewN ?_ _ | refine blk_drew ?_ | refine blk_alloc ?_ _)); exact BK784.out⟩
            have n4_ : Aside0 (Below w.heap.size w (((w17.setCell ⟨gb784, 0, none⟩ (.int .i64 t777)).setCell ⟨gb784, 1, none⟩ (.slice Ao19 t778.length co19)).setCell ⟨gb784, 2, none⟩ (.slice Ao20 t781.length co20))) := ⟨by repeat (first | (with_reducible first | exact HB.out | apply below_alloc | apply pw_below_drewN | apply below_drew1 | refine below_set ?_ GE784.out) | exact HB.out)⟩
            (try clear HO776)
            (try clear HO780)
            (try clear HO783)
            (try clear BK784)
            (try clear HB)
            generalize (((w17.setCell ⟨gb784, 0, none⟩ (.int .i64 t777)).setCell ⟨gb784, 1, none⟩ (.slice Ao19 t778.length co19)).setCell ⟨gb784, 2, none⟩ (.slice Ao20 t781.length co20)) = w21 at n0_ n1_ n2_ n3_ n4_ ⊢
            have HO776 := n0_
            have HO780 := n1_
            have HO783 := n2_
            have BK784 := n3_
            have HB := n4_
            clear n0_ n1_ n2_ n3_ n4_
            have n0_ := Aside0.mk (Kd.R_drew HO776.out)
            have n1_ := Aside0.mk (Kd.R_drew HO780.out)
            have n2_ := Aside0.mk (Kd.S_drew HO783.out)
            have n3_ := Aside0.mk (blk_drew BK784.out)
            have n4_ := Aside0.mk (below_drew1 HB.out)
            clear HO776
            clear HO780
            clear HO783
            clear BK784
            clear HB
            have HO776 := n0_
            have HO780 := n1_
            have HO783 := n2_
            have BK784 := n3_
            have HB := n4_
            clear n0_ n1_ n2_ n3_ n4_
            refine start_ (n := 6) (S := fun w' => w'.cell? ⟨gb784, 0, none⟩ = some (.int .i64 t777) ∧ w'.cell? ⟨gb784, 1, none⟩ = some (.slice Ao19 t778.length co19) ∧ w'.cell? ⟨gb784, 2, none⟩ = some (.slice Ao20 t781.length co20)) (ds := []) #[false, false, false, false, false, false] (by kernel_rfl) rfl rfl ⟨(blk_cell BK784.out 0).trans rfl, (blk_cell BK784.out 1).trans rfl, (blk_cell BK784.out 2).trans rfl⟩ (fun hHeld => ?_)
            generalize w21.drew = w22 at HO776 HO780 HO783 BK784 HB hHeld ⊢
            refine pure_ (i := 1) (N := some 18) (v := ?_) (a' := ?_) #[false, true, false, false, false, false] rfl rfl (by kernel_rfl) (fun _ _ _ h => h) (Or.inl ⟨by rfl, ?_⟩) ?_ ?_
            rotate_left
            · intro w'
              go_simp
              with_reducible rfl
            rotate_left
            · simp only [Act.put, List.setIfInBounds_toArray, List.set_cons_zero, List.set_cons_succ, i64_w, i32_w]
              rfl
            refine pure_ (i := 2) (N := some 19) (v := ?_) (a' := ?_) #[false, true, true, false, false, false] rfl rfl (by kernel_rfl) (fun _ _ _ h => h) (Or.inl ⟨by rfl, ?_⟩) ?_ ?_
            rotate_left
            · intro w'
              go_simp
              with_reducible rfl
            rotate_left
            · simp only [Act.put, List.setIfInBounds_toArray, List.set_cons_zero, List.set_cons_succ, i64_w, i32_w]
              rfl
            refine take_ (i := 0) (N := some 17) (v := ?_) (a' := ?_) #[true, true, true, false, false, false] rfl rfl (by kernel_rfl) (fun _ _ _ h => h) (Or.inl ⟨by rfl, ?_⟩) hHeld ?_ ?_
            rotate_left
            · rintro w' ⟨s0, s1, s2⟩
              go_simp
              with_reducible rfl
            rotate_left
            · simp only [Act.put, List.setIfInBounds_toArray, List.set_cons_zero, List.set_cons_succ, i64_w, i32_w]
              rfl
            refine one_ (i := 3) (N := some 20) #[true, true, true, true, false, false] rfl rfl (by kernel_rfl) (by decide) (fun K hK => ?_)
            refine goes_ Try.func42 (by kernel_rfl) rfl #[.int .i64 t773, .slice Ao15 t774.length co15] (by rfl) rfl rfl (by (try simp only [List.map_toArray, List.map_cons, List.map_nil]); first | done | rfl | (simp only [List.length_drop, List.length_take]; rfl)) ?_
            with_reducible refine (spec_MindNew.calls k t773 _ _ t774 t785 t786 t789 _ ?side1 ?side2 A5.out).mono ?_
            (case side1 => repeat (first | exact (Kd.R_reads' HO776.out).2.2 | (with_reducible refine Kd.C_alloc ?_ _) | (with_reducible refine Kd.C_drewN ?_ _) | (with_reducible refine Kd.C_drew ?_)))
            (case side2 => exact (Kd.R_reads' HO776.out).2.1)
            rintro e w23 ⟨v787, v790, rfl, ho0, ho1, hb⟩
            refine ⟨_, rfl, ?_⟩
            have n0_ := Aside0.mk (Kd.R_elder' (by (with_reducible repeat (first | apply Kd.R_alloc | apply Kd.R_drewN | apply Kd.R_drew)); exact HO776.out) (Kd.R_base ho0) hb)
            have n1_ := Aside0.mk (Kd.R_elder' (by (with_reducible repeat (first | apply Kd.R_alloc | apply Kd.R_drewN | apply Kd.R_drew)); exact HO780.out) (Kd.R_base ho0) hb)
            have n2_ := Aside0.mk (Kd.S_mono (Kd.S_told (Kd.S_told (Kd.S_old (by (with_reducible repeat (first | apply Kd.S_alloc | apply Kd.S_drewN | apply Kd.S_drew)); exact HO783.out) hb) (Kd.R_base ho0)) (Kd.S_base ho1)) (fun _ h_ => h_.1))
            have n3_ := Aside0.mk (Kd.R_lower (Kd.R_new' (Kd.R_new' ho0 (Kd.R_lt (by (with_reducible repeat (first | apply Kd.R_alloc | apply Kd.R_drewN | apply Kd.R_drew)); exact HO776.out))) (Kd.R_lt (by (with_reducible repeat (first | apply Kd.R_alloc | apply Kd.R_drewN | apply Kd.R_drew)); exact HO780.out))) (below_size (by repeat (first | (with_reducible first | exact HB.out | apply below_alloc | apply pw_below_drewN | apply below_drew1 | refine below_set ?_ GE784.out) | exact HB.out))))
            have n4_ := Aside0.mk (Kd.S_lower (Kd.S_new' (Kd.S_new' (Kd.S_new' ho1 (Kd.R_lt (by (with_reducible repeat (first | apply Kd.R_alloc | apply Kd.R_drewN | apply Kd.R_drew)); exact HO776.out))) (Kd.R_lt (by (with_reducible repeat (first | apply Kd.R_alloc | apply Kd.R_drewN | apply Kd.R_drew)); exact HO780.out))) (Kd.S_lt (by (with_reducible repeat (first | apply Kd.S_alloc | apply Kd.S_drewN | apply Kd.S_drew)); exact HO783.out))) (below_size (by repeat (first | (with_reducible first | exact HB.out | apply below_alloc | apply pw_below_drewN | apply below_drew1 | refine below_set ?_ GE784.out) | exact HB.out))))
            have n5_ := Aside0.mk (blk_below (g := gb784) (o := .cells #[.int .i64 t777, .slice Ao19 t778.length co19, .slice Ao20 t781.length co20] 58 (0, 0)) (by (with_reducible repeat (first | refine blk_drewN ?_ _ | refine blk_drew ?_ | refine blk_alloc ?_ _)); exact BK784.out) hb)
            have n6_ := Aside0.mk (below_step (by repeat (first | (with_reducible first | exact HB.out | apply below_alloc | apply pw_below_drewN | apply below_drew1 | refine below_set ?_ GE784.out) | exact HB.out)) hb)
            clear HO776
            clear HO780
            clear HO783
            clear BK784
            clear HB
            have HO776 := n0_
            have HO780 := n1_
            have HO783 := n2_
            have HO788 := n3_
            have HO791 := n4_
            have BK784 := n5_
            have HB := n6_
            clear n0_ n1_ n2_ n3_ n4_ n5_ n6_
            (try clear hb)
            (try clear hb2)
            (try clear hk)
            (try clear hi)
            (try clear ho0)
            (try clear ho1)
            obtain ⟨Ao24, co24, eo24⟩ := Kd.R_slice HO788.out
            (first | subst eo24 | (injection eo24 with f1_ f2_ f3_; have f4_ := f1_.symm; have f5_ := f3_.symm; clear f1_ f2_ f3_; subst f4_; subst f5_))
            obtain ⟨Ao25, co25, eo25⟩ := Kd.S_slice HO791.out
            (first | subst eo25 | (injection eo25 with f1_ f2_ f3_; have f4_ := f1_.symm; have f5_ := f3_.symm; clear f1_ f2_ f3_; subst f4_; subst f5_))
            refine hK.out _ _ ⟨(blk_cell BK784.out 0).trans rfl, (blk_cell BK784.out 1).trans rfl, (blk_cell BK784.out 2).trans rfl⟩ (fun hHeld => ?_)
            clear hK K
            refine norm_ (a' := ?_) ?_ ?_
            rotate_left
            · show Act.put _ (some 20) _ = _
              simp only [Act.put, List.setIfInBounds_toArray, List.set_cons_zero, List.set_cons_succ, i64_w, i32_w]
              rfl
            refine one_ (i := 4) (N := some 21) #[true, true, true, true, true, false] rfl rfl (by kernel_rfl) (by decide) (fun K hK => ?_)
            refine goes_ Try.func58 (by kernel_rfl) rfl #[.agg #[.int .i64 t777, .slice Ao19 t778.length co19, .slice Ao20 t781.length co20], .agg #[.int .i64 t785, .slice Ao24 t786.length co24, .slice Ao25 t789.length co25]] (by rfl) rfl rfl (by (try simp only [List.map_toArray, List.map_cons, List.map_nil]); first | done | rfl | (simp only [List.length_drop, List.length_take]; rfl)) ?_
            with_reducible refine (laws_sameMind.calls k t777 _ _ t778 _ _ t781 t785 _ _ t786 _ _ t789 true _ ?side1 ?side2 ?side3 ?side4 ?side5 ?side6 ?side7 ?side8 A6.out).mono ?_
            (case side1 => repeat (first | exact (Kd.R_reads' HO780.out).2.2 | (with_reducible refine Kd.C_alloc ?_ _) | (with_reducible refine Kd.C_drewN ?_ _) | (with_reducible refine Kd.C_drew ?_)))
            (case side2 => exact (Kd.R_reads' HO780.out).2.1)
            (case side3 => repeat (first | exact (Kd.S_reads' HO783.out).2.2 | (with_reducible refine Kd.C_alloc ?_ _) | (with_reducible refine Kd.C_drewN ?_ _) | (with_reducible refine Kd.C_drew ?_)))
            (case side4 => exact (Kd.S_reads' HO783.out).2.1)
            (case side5 => repeat (first | exact (Kd.R_reads' HO788.out).2.2 | (with_reducible refine Kd.C_alloc ?_ _) | (with_reducible refine Kd.C_drewN ?_ _) | (with_reducible refine Kd.C_drew ?_)))
            (case side6 => exact (Kd.R_reads' HO788.out).2.1)
            (case side7 => repeat (first | exact (Kd.S_reads' HO791.out).2.2 | (with_reducible refine Kd.C_alloc ?_ _) | (with_reducible refine Kd.C_drewN ?_ _) | (with_reducible refine Kd.C_drew ?_)))
            (case side8 => exact (Kd.S_reads' HO791.out).2.1)
            rintro e w26 ⟨rfl, hb⟩
            refine ⟨_, rfl, ?_⟩
            have n0_ := Aside0.mk (Kd.R_below (by (with_reducible repeat (first | apply Kd.R_alloc | apply Kd.R_drewN | apply Kd.R_drew)); exact HO776.out) hb)
            have n1_ := Aside0.mk (Kd.R_below (by (with_reducible repeat (first | apply Kd.R_alloc | apply Kd.R_drewN | apply Kd.R_drew)); exact HO780.out) hb)
            have n2_ := Aside0.mk (Kd.S_below (by (with_reducible repeat (first | apply Kd.S_alloc | apply Kd.S_drewN | apply Kd.S_drew)); exact HO783.out) hb)
            have n3_ := Aside0.mk (Kd.R_below (by (with_reducible repeat (first | apply Kd.R_alloc | apply Kd.R_drewN | apply Kd.R_drew)); exact HO788.out) hb)
            have n4_ := Aside0.mk (Kd.S_below (by (with_reducible repeat (first | apply Kd.S_alloc | apply Kd.S_drewN | apply Kd.S_drew)); exact HO791.out) hb)
            have n5_ := Aside0.mk (blk_below (g := gb784) (o := .cells #[.int .i64 t777, .slice Ao19 t778.length co19, .slice Ao20 t781.length co20] 58 (0, 0)) (by (with_reducible repeat (first | refine blk_drewN ?_ _ | refine blk_drew ?_ | refine blk_alloc ?_ _)); exact BK784.out) hb)
            have n6_ := Aside0.mk (below_step (by repeat (first | (with_reducible first | exact HB.out | apply below_alloc | apply pw_below_drewN | apply below_drew1 | refine below_set ?_ GE784.out) | exact HB.out)) hb)
            clear HO776
            clear HO780
            clear HO783
            clear HO788
            clear HO791
            clear BK784
            clear HB
            have HO776 := n0_
            have HO780 := n1_
            have HO783 := n2_
            have HO788 := n3_
            have HO791 := n4_
            have BK784 := n5_
            have HB := n6_
            clear n0_ n1_ n2_ n3_ n4_ n5_ n6_
            (try clear hb)
            (try clear hb2)
            (try clear hk)
            (try clear hi)
            refine hK.out _ _ ⟨(blk_cell BK784.out 0).trans rfl, (blk_cell BK784.out 1).trans rfl, (blk_cell BK784.out 2).trans rfl⟩ (fun hHeld => ?_)
            clear hK K
            refine norm_ (a' := ?_) ?_ ?_
            rotate_left
            · show Act.put _ (some 21) _ = _
              simp only [Act.put, List.setIfInBounds_toArray, List.set_cons_zero, List.set_cons_succ, i64_w, i32_w]
              rfl
            refine pure_ (i := 5) (N := some 22) (v := ?_) (a' := ?_) #[true, true, true, true, true, true] rfl rfl (by kernel_rfl) (fun _ _ _ h => h) (Or.inl ⟨by rfl, ?_⟩) ?_ ?_
            rotate_left
            · intro w'
              go_simp
              with_reducible rfl
            rotate_left
            · simp only [Act.put, List.setIfInBounds_toArray, List.set_cons_zero, List.set_cons_succ, i64_w, i32_w]
              rfl
            refine done_ (by kernel_rfl) ?_
            try go_wp2_with (first | ((with_reducible refine gate_callee (f := 59) rfl ?_); refine goesL_ (some 25) rfl rfl Try.func59 (by kernel_rfl) rfl #[.int .i64 t773, .slice Ao15 t774.length co15] rfl (by (try simp only [List.map_toArray, List.map_cons, List.map_nil]); first | done | rfl | (simp only [List.length_drop, List.length_take]; rfl)) ?_; (with_reducible refine (spec_RankOk.calls k t773 _ _ t774 true _ ?side1 ?side2 A8.out).mono ?_); (case side1 => repeat (first | exact (Kd.R_reads' HO776.out).2.2 | (with_reducible refine Kd.C_alloc ?_ _) | (with_reducible refine Kd.C_drewN ?_ _) | (with_reducible refine Kd.C_drew ?_))); (case side2 => exact (Kd.R_reads' HO776.out).2.1); rintro e w27 ⟨rfl, hb⟩; refine ⟨_, rfl, ?_⟩; have n0_ := Aside0.mk (Kd.R_below (by (with_reducible repeat (first | apply Kd.R_alloc | apply Kd.R_drewN | apply Kd.R_drew)); exact HO776.out) hb); have n1_ := Aside0.mk (Kd.R_below (by (with_reducible repeat (first | apply Kd.R_alloc | apply Kd.R_drewN | apply Kd.R_drew)); exact HO780.out) hb); have n2_ := Aside0.mk (Kd.S_below (by (with_reducible repeat (first | apply Kd.S_alloc | apply Kd.S_drewN | apply Kd.S_drew)); exact HO783.out) hb); have n3_ := Aside0.mk (Kd.R_below (by (with_reducible repeat (first | apply Kd.R_alloc | apply Kd.R_drewN | apply Kd.R_drew)); exact HO788.out) hb); have n4_ := Aside0.mk (Kd.S_below (by (with_reducible repeat (first | apply Kd.S_alloc | apply Kd.S_drewN | apply Kd.S_drew)); exact HO791.out) hb); have n5_ := Aside0.mk (blk_below (g := gb784) (o := .cells #[.int .i64 t777, .slice Ao19 t778.length co19, .slice Ao20 t781.length co20] 58 (0, 0)) (by (with_reducible repeat (first | refine blk_drewN ?_ _ | refine blk_drew ?_ | refine blk_alloc ?_ _)); exact BK784.out) hb); have n6_ := Aside0.mk (below_step (by repeat (first | (with_reducible first | exact HB.out | apply below_alloc | apply pw_below_drewN | apply below_drew1 | refine below_set ?_ GE784.out) | exact HB.out)) hb); clear HO776; clear HO780; clear HO783; clear HO788; clear HO791; clear BK784; clear HB; have HO776 := n0_; have HO780 := n1_; have HO783 := n2_; have HO788 := n3_; have HO791 := n4_; have BK784 := n5_; have HB := n6_; clear n0_ n1_ n2_ n3_ n4_ n5_ n6_; (try clear hb); (try clear hb2); (try clear hk); (try clear hi); have hcz28_0 : w27.cell? ⟨gb784, 0, none⟩ = some (.int .i64 t777) := (blk_cell BK784.out 0).trans rfl; have hcz28_1 : w27.cell? ⟨gb784, 1, none⟩ = some (.slice Ao19 t778.length co19) := (blk_cell BK784.out 1).trans rfl; have hcz28_2 : w27.cell? ⟨gb784, 2, none⟩ = some (.slice Ao20 t781.length co20) := (blk_cell BK784.out 2).trans rfl; have hfz28_0 := blk_frozen BK784.out 0; have hfz28_1 := blk_frozen BK784.out 1; have hfz28_2 := blk_frozen BK784.out 2) | ((with_reducible refine gate_callee (f := 54) rfl ?_); refine goesL_ (some 33) rfl rfl Try.func54 (by kernel_rfl) rfl #[.agg #[.int .i64 t777, .slice Ao19 t778.length co19, .slice Ao20 t781.length co20]] rfl (by (try simp only [List.map_toArray, List.map_cons, List.map_nil]); first | done | rfl | (simp only [List.length_drop, List.length_take]; rfl)) ?_; (with_reducible refine (impl_MindValid.calls k t777 _ _ t778 _ _ t781 true _ ?side1 ?side2 ?side3 ?side4 A10.out).mono ?_); (case side1 => repeat (first | exact (Kd.R_reads' HO780.out).2.2 | (with_reducible refine Kd.C_alloc ?_ _) | (with_reducible refine Kd.C_drewN ?_ _) | (with_reducible refine Kd.C_drew ?_))); (case side2 => exact (Kd.R_reads' HO780.out).2.1); (case side3 => repeat (first | exact (Kd.S_reads' HO783.out).2.2 | (with_reducible refine Kd.C_alloc ?_ _) | (with_reducible refine Kd.C_drewN ?_ _) | (with_reducible refine Kd.C_drew ?_))); (case side4 => exact (Kd.S_reads' HO783.out).2.1); rintro e w29 ⟨rfl, hb⟩; refine ⟨_, rfl, ?_⟩; have n0_ := Aside0.mk (Kd.R_below (by (with_reducible repeat (first | apply Kd.R_alloc | apply Kd.R_drewN | apply Kd.R_drew)); exact HO776.out) hb); have n1_ := Aside0.mk (Kd.R_below (by (with_reducible repeat (first | apply Kd.R_alloc | apply Kd.R_drewN | apply Kd.R_drew)); exact HO780.out) hb); have n2_ := Aside0.mk (Kd.S_below (by (with_reducible repeat (first | apply Kd.S_alloc | apply Kd.S_drewN | apply Kd.S_drew)); exact HO783.out) hb); have n3_ := Aside0.mk (Kd.R_below (by (with_reducible repeat (first | apply Kd.R_alloc | apply Kd.R_drewN | apply Kd.R_drew)); exact HO788.out) hb); have n4_ := Aside0.mk (Kd.S_below (by (with_reducible repeat (first | apply Kd.S_alloc | apply Kd.S_drewN | apply Kd.S_drew)); exact HO791.out) hb); have n5_ := Aside0.mk (blk_below (g := gb784) (o := .cells #[.int .i64 t777, .slice Ao19 t778.length co19, .slice Ao20 t781.length co20] 58 (0, 0)) (by (with_reducible repeat (first | refine blk_drewN ?_ _ | refine blk_drew ?_ | refine blk_alloc ?_ _)); exact BK784.out) hb); have n6_ := Aside0.mk (below_step (by repeat (first | (with_reducible first | exact HB.out | apply below_alloc | apply pw_below_drewN | apply below_drew1 | refine below_set ?_ GE784.out) | exact HB.out)) hb); clear HO776; clear HO780; clear HO783; clear HO788; clear HO791; clear BK784; clear HB; have HO776 := n0_; have HO780 := n1_; have HO783 := n2_; have HO788 := n3_; have HO791 := n4_; have BK784 := n5_; have HB := n6_; clear n0_ n1_ n2_ n3_ n4_ n5_ n6_; (try clear hb); (try clear hb2); (try clear hk); (try clear hi); have hcz30_0 : w29.cell? ⟨gb784, 0, none⟩ = some (.int .i64 t777) := (blk_cell BK784.out 0).trans rfl; have hcz30_1 : w29.cell? ⟨gb784, 1, none⟩ = some (.slice Ao19 t778.length co19) := (blk_cell BK784.out 1).trans rfl; have hcz30_2 : w29.cell? ⟨gb784, 2, none⟩ = some (.slice Ao20 t781.length co20) := (blk_cell BK784.out 2).trans rfl; have hfz30_0 := blk_frozen BK784.out 0; have hfz30_1 := blk_frozen BK784.out 1; have hfz30_2 := blk_frozen BK784.out 2) | (go_at_call 61; (with_reducible refine (impl_SameOrder.calls k t773 _ _ t778 _ _ t774 true _ ?side1 ?side2 ?side3 ?side4 A12.out).mono ?_); (case side1 => repeat (first | exact (Kd.R_reads' HO780.out).2.2 | (with_reducible refine Kd.C_alloc ?_ _) | (with_reducible refine Kd.C_drewN ?_ _) | (with_reducible refine Kd.C_drew ?_))); (case side2 => exact (Kd.R_reads' HO780.out).2.1); (case side3 => repeat (first | exact (Kd.R_reads' HO776.out).2.2 | (with_reducible refine Kd.C_alloc ?_ _) | (with_reducible refine Kd.C_drewN ?_ _) | (with_reducible refine Kd.C_drew ?_))); (case side4 => exact (Kd.R_reads' HO776.out).2.1); rintro e w31 ⟨rfl, hb⟩; have n0_ := Aside0.mk (Kd.R_below (by (with_reducible repeat (first | apply Kd.R_alloc | apply Kd.R_drewN | apply Kd.R_drew)); exact HO776.out) hb); have n1_ := Aside0.mk (Kd.R_below (by (with_reducible repeat (first | apply Kd.R_alloc | apply Kd.R_drewN | apply Kd.R_drew)); exact HO780.out) hb); have n2_ := Aside0.mk (Kd.S_below (by (with_reducible repeat (first | apply Kd.S_alloc | apply Kd.S_drewN | apply Kd.S_drew)); exact HO783.out) hb); have n3_ := Aside0.mk (Kd.R_below (by (with_reducible repeat (first | apply Kd.R_alloc | apply Kd.R_drewN | apply Kd.R_drew)); exact HO788.out) hb); have n4_ := Aside0.mk (Kd.S_below (by (with_reducible repeat (first | apply Kd.S_alloc | apply Kd.S_drewN | apply Kd.S_drew)); exact HO791.out) hb); have n5_ := Aside0.mk (blk_below (g := gb784) (o := .cells #[.int .i64 t777, .slice Ao19 t778.length co19, .slice Ao20 t781.length co20] 58 (0, 0)) (by (with_reducible repeat (first | refine blk_drewN ?_ _ | refine blk_drew ?_ | refine blk_alloc ?_ _)); exact BK784.out) hb); have n6_ := Aside0.mk (below_step (by repeat (first | (with_reducible first | exact HB.out | apply below_alloc | apply pw_below_drewN | apply below_drew1 | refine below_set ?_ GE784.out) | exact HB.out)) hb); clear HO776; clear HO780; clear HO783; clear HO788; clear HO791; clear BK784; clear HB; have HO776 := n0_; have HO780 := n1_; have HO783 := n2_; have HO788 := n3_; have HO791 := n4_; have BK784 := n5_; have HB := n6_; clear n0_ n1_ n2_ n3_ n4_ n5_ n6_; (try clear hb); (try clear hb2); (try clear hk); (try clear hi); have hcz32_0 : w31.cell? ⟨gb784, 0, none⟩ = some (.int .i64 t777) := (blk_cell BK784.out 0).trans rfl; have hcz32_1 : w31.cell? ⟨gb784, 1, none⟩ = some (.slice Ao19 t778.length co19) := (blk_cell BK784.out 1).trans rfl; have hcz32_2 : w31.cell? ⟨gb784, 2, none⟩ = some (.slice Ao20 t781.length co20) := (blk_cell BK784.out 2).trans rfl; have hfz32_0 := blk_frozen BK784.out 0; have hfz32_1 := blk_frozen BK784.out 1; have hfz32_2 := blk_frozen BK784.out 2))
            go_ret
            exact ⟨by first | rfl | (simp [errW_none, errW_some] <;> rfl) | (simp [*, errW_none, errW_some] <;> rfl), by repeat (first | (with_reducible first | exact HB.out | apply below_alloc | apply pw_below_drewN | apply below_drew1 | refine below_set ?_ GE784.out) | exact HB.out)⟩
          · replace c13 := Bool.eq_false_iff.mpr c13
            subst c13
            have H1 : (some false) = some r := by rw [if_neg (show ¬ (false = true) by decide)] at H; exact H
            clear H
            have H := H1
            clear H1
            obtain rfl := Option.some.inj H
            go_enter Try.func13, Try.ntmps13
            try go_wp2_with (first | ((with_reducible refine gate_callee (f := 57) rfl ?_); refine goesL_ (some 11) rfl rfl Try.func57 (by kernel_rfl) rfl #[.slice A0 l0.length c0] rfl (by (try simp only [List.map_toArray, List.map_cons, List.map_nil]); first | done | rfl | (simp only [List.length_drop, List.length_take]; rfl)) ?_; (with_reducible refine (spec_DrawMindNew.calls k _ _ l0 t773 t774 _ ?side1 ?side2 A3.out).mono ?_); (case side1 => repeat (first | exact HR0.out | (with_reducible refine Kd.C_alloc ?_ _) | (with_reducible refine Kd.C_drewN ?_ _) | (with_reducible refine Kd.C_drew ?_))); (case side2 => exact HC0.out); rintro e w33 ⟨v775, rfl, ho0, hb⟩; refine ⟨_, rfl, ?_⟩; have n0_ := Aside0.mk (Kd.R_lower ho0 (below_size (by repeat (first | (with_reducible first | exact HB.out | apply below_alloc | apply pw_below_drewN | apply below_drew1) | exact HB.out)))); have n1_ := Aside0.mk (below_step (by repeat (first | (with_reducible first | exact HB.out | apply below_alloc | apply pw_below_drewN | apply below_drew1) | exact HB.out)) hb); clear HB; have HO776 := n0_; have HB := n1_; clear n0_ n1_; (try clear hb); (try clear hb2); (try clear hk); (try clear hi); (try clear ho0); obtain ⟨Ao34, co34, eo34⟩ := Kd.R_slice HO776.out; subst eo34) | ((with_reducible refine gate_callee (f := 44) rfl ?_); refine goesL_ (some 16) rfl rfl Try.func44 (by kernel_rfl) rfl #[.int .i64 t773, .slice Ao34 t774.length co34] rfl (by (try simp only [List.map_toArray, List.map_cons, List.map_nil]); first | done | rfl | (simp only [List.length_drop, List.length_take]; rfl)) ?_; (with_reducible refine (impl_MindNew.calls k t773 _ _ t774 t777 t778 t781 _ ?side1 ?side2 A4.out).mono ?_); (case side1 => repeat (first | exact (Kd.R_reads' HO776.out).2.2 | (with_reducible refine Kd.C_alloc ?_ _) | (with_reducible refine Kd.C_drewN ?_ _) | (with_reducible refine Kd.C_drew ?_))); (case side2 => exact (Kd.R_reads' HO776.out).2.1); rintro e w35 ⟨v779, v782, rfl, ho0, ho1, hb⟩; refine ⟨_, rfl, ?_⟩; have n0_ := Aside0.mk (Kd.R_elder' (by (with_reducible repeat (first | apply Kd.R_alloc | apply Kd.R_drewN | apply Kd.R_drew)); exact HO776.out) (Kd.R_base ho0) hb); have n1_ := Aside0.mk (Kd.R_lower (Kd.R_new' ho0 (Kd.R_lt (by (with_reducible repeat (first | apply Kd.R_alloc | apply Kd.R_drewN | apply Kd.R_drew)); exact HO776.out))) (below_size (by repeat (first | (with_reducible first | exact HB.out | apply below_alloc | apply pw_below_drewN | apply below_drew1) | exact HB.out)))); have n2_ := Aside0.mk (Kd.S_lower (Kd.S_new' ho1 (Kd.R_lt (by (with_reducible repeat (first | apply Kd.R_alloc | apply Kd.R_drewN | apply Kd.R_drew)); exact HO776.out))) (below_size (by repeat (first | (with_reducible first | exact HB.out | apply below_alloc | apply pw_below_drewN | apply below_drew1) | exact HB.out)))); have n3_ := Aside0.mk (below_step (by repeat (first | (with_reducible first | exact HB.out | apply below_alloc | apply pw_below_drewN | apply below_drew1) | exact HB.out)) hb); clear HO776; clear HB; have HO776 := n0_; have HO780 := n1_; have HO783 := n2_; have HB := n3_; clear n0_ n1_ n2_ n3_; (try clear hb); (try clear hb2); (try clear hk); (try clear hi); (try clear ho0); (try clear ho1)) | ((with_reducible refine gate_dst (N := 5) rfl ?_); (try (refine gate_guard (by rfl) ?_; dsimp only)); refine box_event ?hg (N := 5) ?hd (cs := #[.int .i64 0, .slice none 0 0, .slice none 0 0]) (t := 58) ?hr ?_; (case hd => rfl); (case hg => rfl); (case hr => first | (go_simp; done) | (go_simp; rfl)); intro gb784 hg w36 hbox hb; have n0_ := Aside0.mk (Kd.R_below (by (with_reducible repeat (first | apply Kd.R_alloc | apply Kd.R_drewN | apply Kd.R_drew)); exact HO776.out) hb); have n1_ := Aside0.mk (Kd.R_below (by (with_reducible repeat (first | apply Kd.R_alloc | apply Kd.R_drewN | apply Kd.R_drew)); exact HO780.out) hb); have n2_ := Aside0.mk (Kd.S_below (by (with_reducible repeat (first | apply Kd.S_alloc | apply Kd.S_drewN | apply Kd.S_drew)); exact HO783.out) hb); have n3_ := Aside0.mk (below_step (by repeat (first | (with_reducible first | exact HB.out | apply below_alloc | apply pw_below_drewN | apply below_drew1) | exact HB.out)) hb); have n4_ := Aside0.mk (hbox); have n5_ := Aside0.mk ((by rw [hg]; exact (below_size (by repeat (first | (with_reducible first | exact HB.out | apply below_alloc | apply pw_below_drewN | apply below_drew1) | exact HB.out))) : w.heap.size ≤ gb784)); have n6_ := Aside0.mk ((by rw [hg]; exact (below_size (by repeat (first | (with_reducible first | exact HB.out | apply below_alloc | apply pw_below_drewN | apply below_drew1) | exact HB.out))) : w.heap.size ≤ gb784)); clear HO776; clear HO780; clear HO783; clear HB; have HO776 := n0_; have HO780 := n1_; have HO783 := n2_; have HB := n3_; have BK784 := n4_; have GW784 := n5_; have GE784 := n6_; clear n0_ n1_ n2_ n3_ n4_ n5_ n6_; clear hb hbox hg; have hcz37_0 : w36.cell? ⟨gb784, 0, none⟩ = some (.int .i64 0) := (blk_cell BK784.out 0).trans rfl; have hcz37_1 : w36.cell? ⟨gb784, 1, none⟩ = some (.slice none 0 0) := (blk_cell BK784.out 1).trans rfl; have hcz37_2 : w36.cell? ⟨gb784, 2, none⟩ = some (.slice none 0 0) := (blk_cell BK784.out 2).trans rfl; have hfz37_0 := blk_frozen BK784.out 0; have hfz37_1 := blk_frozen BK784.out 1; have hfz37_2 := blk_frozen BK784.out 2; obtain ⟨Ao38, co38, eo38⟩ := Kd.R_slice HO780.out; subst eo38; obtain ⟨Ao39, co39, eo39⟩ := Kd.S_slice HO783.out; subst eo39))
            have n0_ : Aside0 (Kd.R (Kd.int .i64) 3 (((w36.setCell ⟨gb784, 0, none⟩ (.int .i64 t777)).setCell ⟨gb784, 1, none⟩ (.slice Ao38 t778.length co38)).setCell ⟨gb784, 2, none⟩ (.slice Ao39 t781.length co39)) w.heap.size (fun k_ => some k_ ≠ (.slice Ao38 t778.length co38 : Value).ownBlock) (.slice Ao34 t774.length co34) t774) := ⟨by (with_reducible repeat (first | apply Kd.R_alloc | apply Kd.R_drewN | apply Kd.R_drew)); exact Kd.R_mono (Kd.R_far (p := ⟨gb784, 2, none⟩) (Kd.R_far (p := ⟨gb784, 1, none⟩) (Kd.R_far (p := ⟨gb784, 0, none⟩) (Kd.R_types HO776.out BK784.out (by decide)) (fun _ hk => hk.2) (.int .i64 t777)) (fun _ hk => hk.2) (.slice Ao38 t778.length co38)) (fun _ hk => hk.2) (.slice Ao39 t781.length co39)) (fun _ hk => hk.1.2)⟩
            have n1_ : Aside0 (Kd.R (Kd.int .i64) 3 (((w36.setCell ⟨gb784, 0, none⟩ (.int .i64 t777)).setCell ⟨gb784, 1, none⟩ (.slice Ao38 t778.length co38)).setCell ⟨gb784, 2, none⟩ (.slice Ao39 t781.length co39)) w.heap.size (fun k_ => some k_ ≠ (.slice Ao34 t774.length co34 : Value).ownBlock) (.slice Ao38 t778.length co38) t778) := ⟨by (with_reducible repeat (first | apply Kd.R_alloc | apply Kd.R_drewN | apply Kd.R_drew)); exact Kd.R_mono (Kd.R_far (p := ⟨gb784, 2, none⟩) (Kd.R_far (p := ⟨gb784, 1, none⟩) (Kd.R_far (p := ⟨gb784, 0, none⟩) (Kd.R_types HO780.out BK784.out (by decide)) (fun _ hk => hk.2) (.int .i64 t777)) (fun _ hk => hk.2) (.slice Ao38 t778.length co38)) (fun _ hk => hk.2) (.slice Ao39 t781.length co39)) (fun _ hk => hk.1.2)⟩
            have n2_ : Aside0 (Kd.S (Kd.slice 3 (Kd.int .i64)) 55 (((w36.setCell ⟨gb784, 0, none⟩ (.int .i64 t777)).setCell ⟨gb784, 1, none⟩ (.slice Ao38 t778.length co38)).setCell ⟨gb784, 2, none⟩ (.slice Ao39 t781.length co39)) w.heap.size (fun k_ => some k_ ≠ (.slice Ao34 t774.length co34 : Value).ownBlock ∧ some k_ ≠ (.slice Ao38 t778.length co38 : Value).ownBlock) (.slice Ao39 t781.length co39) t781) := ⟨by (with_reducible repeat (first | apply Kd.S_alloc | apply Kd.S_drewN | apply Kd.S_drew)); exact Kd.S_mono (Kd.S_far (p := ⟨gb784, 2, none⟩) (Kd.S_far (p := ⟨gb784, 1, none⟩) (Kd.S_far (p := ⟨gb784, 0, none⟩) (Kd.S_types HO783.out BK784.out (by decide)) (fun _ hk => hk.2) (.int .i64 t777)) (fun _ hk => hk.2) (.slice Ao38 t778.length co38)) (fun _ hk => hk.2) (.slice Ao39 t781.length co39)) (fun _ hk => ⟨hk.1.2, hk.1.1⟩)⟩
            have n3_ : Aside0 ((((w36.setCell ⟨gb784, 0, none⟩ (.int .i64 t777)).setCell ⟨gb784, 1, none⟩ (.slice Ao38 t778.length co38)).setCell ⟨gb784, 2, none⟩ (.slice Ao39 t781.length co39)).heap[gb784]? = some (.cells #[.int .i64 t777, .slice Ao38 t778.length co38, .slice Ao39 t781.length co39] 58 (0, 0))) := ⟨by (with_reducible repeat (first | refine blk_drewN ?_ _ | refine blk_drew ?_ | refine blk_alloc ?_ _)); refine blk_put (cs := #[.int .i64 t777, .slice Ao38 t778.length co38, .slice none 0 0]) ?_ 2 _ rfl; (with_reducible repeat (first | refine blk_drewN ?_ _ | refine blk_drew ?_ | refine blk_alloc ?_ _)); refine blk_put (cs := #[.int .i64 t777, .slice none 0 0, .slice none 0 0]) ?_ 1 _ rfl; (with_reducible repeat (first | refine blk_drewN ?_ _ | refine blk_drew ?_ | refine blk_alloc ?_ _)); refine blk_put (cs := #[.int .i64 0, .slice none 0 0, .slice none 0 0]) ?_ 0 _ rfl; (with_reducible repeat (first | refine blk_drewN ?_ _ | refine blk_drew ?_ | refine blk_alloc ?_ _)); exact BK784.out⟩
            have n4_ : Aside0 (Below w.heap.size w (((w36.setCell ⟨gb784, 0, none⟩ (.int .i64 t777)).setCell ⟨gb784, 1, none⟩ (.slice Ao38 t778.length co38)).setCell ⟨gb784, 2, none⟩ (.slice Ao39 t781.length co39))) := ⟨by repeat (first | (with_reducible first | exact HB.out | apply below_alloc | apply pw_below_drewN | apply below_drew1 | refine below_set ?_ GE784.out) | exact HB.out)⟩
            (try clear HO776)
            (try clear HO780)
            (try clear HO783)
            (try clear BK784)
            (try clear HB)
            generalize (((w36.setCell ⟨gb784, 0, none⟩ (.int .i64 t777)).setCell ⟨gb784, 1, none⟩ (.slice Ao38 t778.length co38)).setCell ⟨gb784, 2, none⟩ (.slice Ao39 t781.length co39)) = w40 at n0_ n1_ n2_ n3_ n4_ ⊢
            have HO776 := n0_
            have HO780 := n1_
            have HO783 := n2_
            have BK784 := n3_
            have HB := n4_
            clear n0_ n1_ n2_ n3_ n4_
            have n0_ := Aside0.mk (Kd.R_drew HO776.out)
            have n1_ := Aside0.mk (Kd.R_drew HO780.out)
            have n2_ := Aside0.mk (Kd.S_drew HO783.out)
            have n3_ := Aside0.mk (blk_drew BK784.out)
            have n4_ := Aside0.mk (below_drew1 HB.out)
            clear HO776
            clear HO780
            clear HO783
            clear BK784
            clear HB
            have HO776 := n0_
            have HO780 := n1_
            have HO783 := n2_
            have BK784 := n3_
            have HB := n4_
            clear n0_ n1_ n2_ n3_ n4_
            refine start_ (n := 6) (S := fun w' => w'.cell? ⟨gb784, 0, none⟩ = some (.int .i64 t777) ∧ w'.cell? ⟨gb784, 1, none⟩ = some (.slice Ao38 t778.length co38) ∧ w'.cell? ⟨gb784, 2, none⟩ = some (.slice Ao39 t781.length co39)) (ds := []) #[false, false, false, false, false, false] (by kernel_rfl) rfl rfl ⟨(blk_cell BK784.out 0).trans rfl, (blk_cell BK784.out 1).trans rfl, (blk_cell BK784.out 2).trans rfl⟩ (fun hHeld => ?_)
            generalize w40.drew = w41 at HO776 HO780 HO783 BK784 HB hHeld ⊢
            refine pure_ (i := 1) (N := some 18) (v := ?_) (a' := ?_) #[false, true, false, false, false, false] rfl rfl (by kernel_rfl) (fun _ _ _ h => h) (Or.inl ⟨by rfl, ?_⟩) ?_ ?_
            rotate_left
            · intro w'
              go_simp
              with_reducible rfl
            rotate_left
            · simp only [Act.put, List.setIfInBounds_toArray, List.set_cons_zero, List.set_cons_succ, i64_w, i32_w]
              rfl
            refine pure_ (i := 2) (N := some 19) (v := ?_) (a' := ?_) #[false, true, true, false, false, false] rfl rfl (by kernel_rfl) (fun _ _ _ h => h) (Or.inl ⟨by rfl, ?_⟩) ?_ ?_
            rotate_left
            · intro w'
              go_simp
              with_reducible rfl
            rotate_left
            · simp only [Act.put, List.setIfInBounds_toArray, List.set_cons_zero, List.set_cons_succ, i64_w, i32_w]
              rfl
            refine take_ (i := 0) (N := some 17) (v := ?_) (a' := ?_) #[true, true, true, false, false, false] rfl rfl (by kernel_rfl) (fun _ _ _ h => h) (Or.inl ⟨by rfl, ?_⟩) hHeld ?_ ?_
            rotate_left
            · rintro w' ⟨s0, s1, s2⟩
              go_simp
              with_reducible rfl
            rotate_left
            · simp only [Act.put, List.setIfInBounds_toArray, List.set_cons_zero, List.set_cons_succ, i64_w, i32_w]
              rfl
            refine one_ (i := 3) (N := some 20) #[true, true, true, true, false, false] rfl rfl (by kernel_rfl) (by decide) (fun K hK => ?_)
            refine goes_ Try.func42 (by kernel_rfl) rfl #[.int .i64 t773, .slice Ao34 t774.length co34] (by rfl) rfl rfl (by (try simp only [List.map_toArray, List.map_cons, List.map_nil]); first | done | rfl | (simp only [List.length_drop, List.length_take]; rfl)) ?_
            with_reducible refine (spec_MindNew.calls k t773 _ _ t774 t785 t786 t789 _ ?side1 ?side2 A5.out).mono ?_
            (case side1 => repeat (first | exact (Kd.R_reads' HO776.out).2.2 | (with_reducible refine Kd.C_alloc ?_ _) | (with_reducible refine Kd.C_drewN ?_ _) | (with_reducible refine Kd.C_drew ?_)))
            (case side2 => exact (Kd.R_reads' HO776.out).2.1)
            rintro e w42 ⟨v787, v790, rfl, ho0, ho1, hb⟩
            refine ⟨_, rfl, ?_⟩
            have n0_ := Aside0.mk (Kd.R_elder' (by (with_reducible repeat (first | apply Kd.R_alloc | apply Kd.R_drewN | apply Kd.R_drew)); exact HO776.out) (Kd.R_base ho0) hb)
            have n1_ := Aside0.mk (Kd.R_elder' (by (with_reducible repeat (first | apply Kd.R_alloc | apply Kd.R_drewN | apply Kd.R_drew)); exact HO780.out) (Kd.R_base ho0) hb)
            have n2_ := Aside0.mk (Kd.S_mono (Kd.S_told (Kd.S_told (Kd.S_old (by (with_reducible repeat (first | apply Kd.S_alloc | apply Kd.S_drewN | apply Kd.S_drew)); exact HO783.out) hb) (Kd.R_base ho0)) (Kd.S_base ho1)) (fun _ h_ => h_.1))
            have n3_ := Aside0.mk (Kd.R_lower (Kd.R_new' (Kd.R_new' ho0 (Kd.R_lt (by (with_reducible repeat (first | apply Kd.R_alloc | apply Kd.R_drewN | apply Kd.R_drew)); exact HO776.out))) (Kd.R_lt (by (with_reducible repeat (first | apply Kd.R_alloc | apply Kd.R_drewN | apply Kd.R_drew)); exact HO780.out))) (below_size (by repeat (first | (with_reducible first | exact HB.out | apply below_alloc | apply pw_below_drewN | apply below_drew1 | refine below_set ?_ GE784.out) | exact HB.out))))
            have n4_ := Aside0.mk (Kd.S_lower (Kd.S_new' (Kd.S_new' (Kd.S_new' ho1 (Kd.R_lt (by (with_reducible repeat (first | apply Kd.R_alloc | apply Kd.R_drewN | apply Kd.R_drew)); exact HO776.out))) (Kd.R_lt (by (with_reducible repeat (first | apply Kd.R_alloc | apply Kd.R_drewN | apply Kd.R_drew)); exact HO780.out))) (Kd.S_lt (by (with_reducible repeat (first | apply Kd.S_alloc | apply Kd.S_drewN | apply Kd.S_drew)); exact HO783.out))) (below_size (by repeat (first | (with_reducible first | exact HB.out | apply below_alloc | apply pw_below_drewN | apply below_drew1 | refine below_set ?_ GE784.out) | exact HB.out))))
            have n5_ := Aside0.mk (blk_below (g := gb784) (o := .cells #[.int .i64 t777, .slice Ao38 t778.length co38, .slice Ao39 t781.length co39] 58 (0, 0)) (by (with_reducible repeat (first | refine blk_drewN ?_ _ | refine blk_drew ?_ | refine blk_alloc ?_ _)); exact BK784.out) hb)
            have n6_ := Aside0.mk (below_step (by repeat (first | (with_reducible first | exact HB.out | apply below_alloc | apply pw_below_drewN | apply below_drew1 | refine below_set ?_ GE784.out) | exact HB.out)) hb)
            clear HO776
            clear HO780
            clear HO783
            clear BK784
            clear HB
            have HO776 := n0_
            have HO780 := n1_
            have HO783 := n2_
            have HO788 := n3_
            have HO791 := n4_
            have BK784 := n5_
            have HB := n6_
            clear n0_ n1_ n2_ n3_ n4_ n5_ n6_
            (try clear hb)
            (try clear hb2)
            (try clear hk)
            (try clear hi)
            (try clear ho0)
            (try clear ho1)
            obtain ⟨Ao43, co43, eo43⟩ := Kd.R_slice HO788.out
            (first | subst eo43 | (injection eo43 with f1_ f2_ f3_; have f4_ := f1_.symm; have f5_ := f3_.symm; clear f1_ f2_ f3_; subst f4_; subst f5_))
            obtain ⟨Ao44, co44, eo44⟩ := Kd.S_slice HO791.out
            (first | subst eo44 | (injection eo44 with f1_ f2_ f3_; have f4_ := f1_.symm; have f5_ := f3_.symm; clear f1_ f2_ f3_; subst f4_; subst f5_))
            refine hK.out _ _ ⟨(blk_cell BK784.out 0).trans rfl, (blk_cell BK784.out 1).trans rfl, (blk_cell BK784.out 2).trans rfl⟩ (fun hHeld => ?_)
            clear hK K
            refine norm_ (a' := ?_) ?_ ?_
            rotate_left
            · show Act.put _ (some 20) _ = _
              simp only [Act.put, List.setIfInBounds_toArray, List.set_cons_zero, List.set_cons_succ, i64_w, i32_w]
              rfl
            refine one_ (i := 4) (N := some 21) #[true, true, true, true, true, false] rfl rfl (by kernel_rfl) (by decide) (fun K hK => ?_)
            refine goes_ Try.func58 (by kernel_rfl) rfl #[.agg #[.int .i64 t777, .slice Ao38 t778.length co38, .slice Ao39 t781.length co39], .agg #[.int .i64 t785, .slice Ao43 t786.length co43, .slice Ao44 t789.length co44]] (by rfl) rfl rfl (by (try simp only [List.map_toArray, List.map_cons, List.map_nil]); first | done | rfl | (simp only [List.length_drop, List.length_take]; rfl)) ?_
            with_reducible refine (laws_sameMind.calls k t777 _ _ t778 _ _ t781 t785 _ _ t786 _ _ t789 true _ ?side1 ?side2 ?side3 ?side4 ?side5 ?side6 ?side7 ?side8 A6.out).mono ?_
            (case side1 => repeat (first | exact (Kd.R_reads' HO780.out).2.2 | (with_reducible refine Kd.C_alloc ?_ _) | (with_reducible refine Kd.C_drewN ?_ _) | (with_reducible refine Kd.C_drew ?_)))
            (case side2 => exact (Kd.R_reads' HO780.out).2.1)
            (case side3 => repeat (first | exact (Kd.S_reads' HO783.out).2.2 | (with_reducible refine Kd.C_alloc ?_ _) | (with_reducible refine Kd.C_drewN ?_ _) | (with_reducible refine Kd.C_drew ?_)))
            (case side4 => exact (Kd.S_reads' HO783.out).2.1)
            (case side5 => repeat (first | exact (Kd.R_reads' HO788.out).2.2 | (with_reducible refine Kd.C_alloc ?_ _) | (with_reducible refine Kd.C_drewN ?_ _) | (with_reducible refine Kd.C_drew ?_)))
            (case side6 => exact (Kd.R_reads' HO788.out).2.1)
            (case side7 => repeat (first | exact (Kd.S_reads' HO791.out).2.2 | (with_reducible refine Kd.C_alloc ?_ _) | (with_reducible refine Kd.C_drewN ?_ _) | (with_reducible refine Kd.C_drew ?_)))
            (case side8 => exact (Kd.S_reads' HO791.out).2.1)
            rintro e w45 ⟨rfl, hb⟩
            refine ⟨_, rfl, ?_⟩
            have n0_ := Aside0.mk (Kd.R_below (by (with_reducible repeat (first | apply Kd.R_alloc | apply Kd.R_drewN | apply Kd.R_drew)); exact HO776.out) hb)
            have n1_ := Aside0.mk (Kd.R_below (by (with_reducible repeat (first | apply Kd.R_alloc | apply Kd.R_drewN | apply Kd.R_drew)); exact HO780.out) hb)
            have n2_ := Aside0.mk (Kd.S_below (by (with_reducible repeat (first | apply Kd.S_alloc | apply Kd.S_drewN | apply Kd.S_drew)); exact HO783.out) hb)
            have n3_ := Aside0.mk (Kd.R_below (by (with_reducible repeat (first | apply Kd.R_alloc | apply Kd.R_drewN | apply Kd.R_drew)); exact HO788.out) hb)
            have n4_ := Aside0.mk (Kd.S_below (by (with_reducible repeat (first | apply Kd.S_alloc | apply Kd.S_drewN | apply Kd.S_drew)); exact HO791.out) hb)
            have n5_ := Aside0.mk (blk_below (g := gb784) (o := .cells #[.int .i64 t777, .slice Ao38 t778.length co38, .slice Ao39 t781.length co39] 58 (0, 0)) (by (with_reducible repeat (first | refine blk_drewN ?_ _ | refine blk_drew ?_ | refine blk_alloc ?_ _)); exact BK784.out) hb)
            have n6_ := Aside0.mk (below_step (by repeat (first | (with_reducible first | exact HB.out | apply below_alloc | apply pw_below_drewN | apply below_drew1 | refine below_set ?_ GE784.out) | exact HB.out)) hb)
            clear HO776
            clear HO780
            clear HO783
            clear HO788
            clear HO791
            clear BK784
            clear HB
            have HO776 := n0_
            have HO780 := n1_
            have HO783 := n2_
            have HO788 := n3_
            have HO791 := n4_
            have BK784 := n5_
            have HB := n6_
            clear n0_ n1_ n2_ n3_ n4_ n5_ n6_
            (try clear hb)
            (try clear hb2)
            (try clear hk)
            (try clear hi)
            refine hK.out _ _ ⟨(blk_cell BK784.out 0).trans rfl, (blk_cell BK784.out 1).trans rfl, (blk_cell BK784.out 2).trans rfl⟩ (fun hHeld => ?_)
            clear hK K
            refine norm_ (a' := ?_) ?_ ?_
            rotate_left
            · show Act.put _ (some 21) _ = _
              simp only [Act.put, List.setIfInBounds_toArray, List.set_cons_zero, List.set_cons_succ, i64_w, i32_w]
              rfl
            refine pure_ (i := 5) (N := some 22) (v := ?_) (a' := ?_) #[true, true, true, true, true, true] rfl rfl (by kernel_rfl) (fun _ _ _ h => h) (Or.inl ⟨by rfl, ?_⟩) ?_ ?_
            rotate_left
            · intro w'
              go_simp
              with_reducible rfl
            rotate_left
            · simp only [Act.put, List.setIfInBounds_toArray, List.set_cons_zero, List.set_cons_succ, i64_w, i32_w]
              rfl
            refine done_ (by kernel_rfl) ?_
            try go_wp2_with (first | ((with_reducible refine gate_callee (f := 59) rfl ?_); refine goesL_ (some 25) rfl rfl Try.func59 (by kernel_rfl) rfl #[.int .i64 t773, .slice Ao34 t774.length co34] rfl (by (try simp only [List.map_toArray, List.map_cons, List.map_nil]); first | done | rfl | (simp only [List.length_drop, List.length_take]; rfl)) ?_; (with_reducible refine (spec_RankOk.calls k t773 _ _ t774 true _ ?side1 ?side2 A8.out).mono ?_); (case side1 => repeat (first | exact (Kd.R_reads' HO776.out).2.2 | (with_reducible refine Kd.C_alloc ?_ _) | (with_reducible refine Kd.C_drewN ?_ _) | (with_reducible refine Kd.C_drew ?_))); (case side2 => exact (Kd.R_reads' HO776.out).2.1); rintro e w46 ⟨rfl, hb⟩; refine ⟨_, rfl, ?_⟩; have n0_ := Aside0.mk (Kd.R_below (by (with_reducible repeat (first | apply Kd.R_alloc | apply Kd.R_drewN | apply Kd.R_drew)); exact HO776.out) hb); have n1_ := Aside0.mk (Kd.R_below (by (with_reducible repeat (first | apply Kd.R_alloc | apply Kd.R_drewN | apply Kd.R_drew)); exact HO780.out) hb); have n2_ := Aside0.mk (Kd.S_below (by (with_reducible repeat (first | apply Kd.S_alloc | apply Kd.S_drewN | apply Kd.S_drew)); exact HO783.out) hb); have n3_ := Aside0.mk (Kd.R_below (by (with_reducible repeat (first | apply Kd.R_alloc | apply Kd.R_drewN | apply Kd.R_drew)); exact HO788.out) hb); have n4_ := Aside0.mk (Kd.S_below (by (with_reducible repeat (first | apply Kd.S_alloc | apply Kd.S_drewN | apply Kd.S_drew)); exact HO791.out) hb); have n5_ := Aside0.mk (blk_below (g := gb784) (o := .cells #[.int .i64 t777, .slice Ao38 t778.length co38, .slice Ao39 t781.length co39] 58 (0, 0)) (by (with_reducible repeat (first | refine blk_drewN ?_ _ | refine blk_drew ?_ | refine blk_alloc ?_ _)); exact BK784.out) hb); have n6_ := Aside0.mk (below_step (by repeat (first | (with_reducible first | exact HB.out | apply below_alloc | apply pw_below_drewN | apply below_drew1 | refine below_set ?_ GE784.out) | exact HB.out)) hb); clear HO776; clear HO780; clear HO783; clear HO788; clear HO791; clear BK784; clear HB; have HO776 := n0_; have HO780 := n1_; have HO783 := n2_; have HO788 := n3_; have HO791 := n4_; have BK784 := n5_; have HB := n6_; clear n0_ n1_ n2_ n3_ n4_ n5_ n6_; (try clear hb); (try clear hb2); (try clear hk); (try clear hi); have hcz47_0 : w46.cell? ⟨gb784, 0, none⟩ = some (.int .i64 t777) := (blk_cell BK784.out 0).trans rfl; have hcz47_1 : w46.cell? ⟨gb784, 1, none⟩ = some (.slice Ao38 t778.length co38) := (blk_cell BK784.out 1).trans rfl; have hcz47_2 : w46.cell? ⟨gb784, 2, none⟩ = some (.slice Ao39 t781.length co39) := (blk_cell BK784.out 2).trans rfl; have hfz47_0 := blk_frozen BK784.out 0; have hfz47_1 := blk_frozen BK784.out 1; have hfz47_2 := blk_frozen BK784.out 2) | ((with_reducible refine gate_callee (f := 54) rfl ?_); refine goesL_ (some 33) rfl rfl Try.func54 (by kernel_rfl) rfl #[.agg #[.int .i64 t777, .slice Ao38 t778.length co38, .slice Ao39 t781.length co39]] rfl (by (try simp only [List.map_toArray, List.map_cons, List.map_nil]); first | done | rfl | (simp only [List.length_drop, List.length_take]; rfl)) ?_; (with_reducible refine (impl_MindValid.calls k t777 _ _ t778 _ _ t781 true _ ?side1 ?side2 ?side3 ?side4 A10.out).mono ?_); (case side1 => repeat (first | exact (Kd.R_reads' HO780.out).2.2 | (with_reducible refine Kd.C_alloc ?_ _) | (with_reducible refine Kd.C_drewN ?_ _) | (with_reducible refine Kd.C_drew ?_))); (case side2 => exact (Kd.R_reads' HO780.out).2.1); (case side3 => repeat (first | exact (Kd.S_reads' HO783.out).2.2 | (with_reducible refine Kd.C_alloc ?_ _) | (with_reducible refine Kd.C_drewN ?_ _) | (with_reducible refine Kd.C_drew ?_))); (case side4 => exact (Kd.S_reads' HO783.out).2.1); rintro e w48 ⟨rfl, hb⟩; refine ⟨_, rfl, ?_⟩; have n0_ := Aside0.mk (Kd.R_below (by (with_reducible repeat (first | apply Kd.R_alloc | apply Kd.R_drewN | apply Kd.R_drew)); exact HO776.out) hb); have n1_ := Aside0.mk (Kd.R_below (by (with_reducible repeat (first | apply Kd.R_alloc | apply Kd.R_drewN | apply Kd.R_drew)); exact HO780.out) hb); have n2_ := Aside0.mk (Kd.S_below (by (with_reducible repeat (first | apply Kd.S_alloc | apply Kd.S_drewN | apply Kd.S_drew)); exact HO783.out) hb); have n3_ := Aside0.mk (Kd.R_below (by (with_reducible repeat (first | apply Kd.R_alloc | apply Kd.R_drewN | apply Kd.R_drew)); exact HO788.out) hb); have n4_ := Aside0.mk (Kd.S_below (by (with_reducible repeat (first | apply Kd.S_alloc | apply Kd.S_drewN | apply Kd.S_drew)); exact HO791.out) hb); have n5_ := Aside0.mk (blk_below (g := gb784) (o := .cells #[.int .i64 t777, .slice Ao38 t778.length co38, .slice Ao39 t781.length co39] 58 (0, 0)) (by (with_reducible repeat (first | refine blk_drewN ?_ _ | refine blk_drew ?_ | refine blk_alloc ?_ _)); exact BK784.out) hb); have n6_ := Aside0.mk (below_step (by repeat (first | (with_reducible first | exact HB.out | apply below_alloc | apply pw_below_drewN | apply below_drew1 | refine below_set ?_ GE784.out) | exact HB.out)) hb); clear HO776; clear HO780; clear HO783; clear HO788; clear HO791; clear BK784; clear HB; have HO776 := n0_; have HO780 := n1_; have HO783 := n2_; have HO788 := n3_; have HO791 := n4_; have BK784 := n5_; have HB := n6_; clear n0_ n1_ n2_ n3_ n4_ n5_ n6_; (try clear hb); (try clear hb2); (try clear hk); (try clear hi); have hcz49_0 : w48.cell? ⟨gb784, 0, none⟩ = some (.int .i64 t777) := (blk_cell BK784.out 0).trans rfl; have hcz49_1 : w48.cell? ⟨gb784, 1, none⟩ = some (.slice Ao38 t778.length co38) := (blk_cell BK784.out 1).trans rfl; have hcz49_2 : w48.cell? ⟨gb784, 2, none⟩ = some (.slice Ao39 t781.length co39) := (blk_cell BK784.out 2).trans rfl; have hfz49_0 := blk_frozen BK784.out 0; have hfz49_1 := blk_frozen BK784.out 1; have hfz49_2 := blk_frozen BK784.out 2) | (go_at_call 61; (with_reducible refine (impl_SameOrder.calls k t773 _ _ t778 _ _ t774 false _ ?side1 ?side2 ?side3 ?side4 A12.out).mono ?_); (case side1 => repeat (first | exact (Kd.R_reads' HO780.out).2.2 | (with_reducible refine Kd.C_alloc ?_ _) | (with_reducible refine Kd.C_drewN ?_ _) | (with_reducible refine Kd.C_drew ?_))); (case side2 => exact (Kd.R_reads' HO780.out).2.1); (case side3 => repeat (first | exact (Kd.R_reads' HO776.out).2.2 | (with_reducible refine Kd.C_alloc ?_ _) | (with_reducible refine Kd.C_drewN ?_ _) | (with_reducible refine Kd.C_drew ?_))); (case side4 => exact (Kd.R_reads' HO776.out).2.1); rintro e w50 ⟨rfl, hb⟩; have n0_ := Aside0.mk (Kd.R_below (by (with_reducible repeat (first | apply Kd.R_alloc | apply Kd.R_drewN | apply Kd.R_drew)); exact HO776.out) hb); have n1_ := Aside0.mk (Kd.R_below (by (with_reducible repeat (first | apply Kd.R_alloc | apply Kd.R_drewN | apply Kd.R_drew)); exact HO780.out) hb); have n2_ := Aside0.mk (Kd.S_below (by (with_reducible repeat (first | apply Kd.S_alloc | apply Kd.S_drewN | apply Kd.S_drew)); exact HO783.out) hb); have n3_ := Aside0.mk (Kd.R_below (by (with_reducible repeat (first | apply Kd.R_alloc | apply Kd.R_drewN | apply Kd.R_drew)); exact HO788.out) hb); have n4_ := Aside0.mk (Kd.S_below (by (with_reducible repeat (first | apply Kd.S_alloc | apply Kd.S_drewN | apply Kd.S_drew)); exact HO791.out) hb); have n5_ := Aside0.mk (blk_below (g := gb784) (o := .cells #[.int .i64 t777, .slice Ao38 t778.length co38, .slice Ao39 t781.length co39] 58 (0, 0)) (by (with_reducible repeat (first | refine blk_drewN ?_ _ | refine blk_drew ?_ | refine blk_alloc ?_ _)); exact BK784.out) hb); have n6_ := Aside0.mk (below_step (by repeat (first | (with_reducible first | exact HB.out | apply below_alloc | apply pw_below_drewN | apply below_drew1 | refine below_set ?_ GE784.out) | exact HB.out)) hb); clear HO776; clear HO780; clear HO783; clear HO788; clear HO791; clear BK784; clear HB; have HO776 := n0_; have HO780 := n1_; have HO783 := n2_; have HO788 := n3_; have HO791 := n4_; have BK784 := n5_; have HB := n6_; clear n0_ n1_ n2_ n3_ n4_ n5_ n6_; (try clear hb); (try clear hb2); (try clear hk); (try clear hi)))
            go_ret
            exact ⟨by first | rfl | (simp [errW_none, errW_some] <;> rfl) | (simp [*, errW_none, errW_some] <;> rfl), by repeat (first | (with_reducible first | exact HB.out | apply below_alloc | apply pw_below_drewN | apply below_drew1 | refine below_set ?_ GE784.out) | exact HB.out)⟩
        · replace c11 := Bool.eq_false_iff.mpr c11
          subst c11
          have H1 : (some false) = some r := by rw [if_neg (show ¬ (false = true) by decide)] at H; exact H
          clear H
          have H := H1
          clear H1
          obtain rfl := Option.some.inj H
          go_enter Try.func13, Try.ntmps13
          try go_wp2_with (first | ((with_reducible refine gate_callee (f := 57) rfl ?_); refine goesL_ (some 11) rfl rfl Try.func57 (by kernel_rfl) rfl #[.slice A0 l0.length c0] rfl (by (try simp only [List.map_toArray, List.map_cons, List.map_nil]); first | done | rfl | (simp only [List.length_drop, List.length_take]; rfl)) ?_; (with_reducible refine (spec_DrawMindNew.calls k _ _ l0 t773 t774 _ ?side1 ?side2 A3.out).mono ?_); (case side1 => repeat (first | exact HR0.out | (with_reducible refine Kd.C_alloc ?_ _) | (with_reducible refine Kd.C_drewN ?_ _) | (with_reducible refine Kd.C_drew ?_))); (case side2 => exact HC0.out); rintro e w51 ⟨v775, rfl, ho0, hb⟩; refine ⟨_, rfl, ?_⟩; have n0_ := Aside0.mk (Kd.R_lower ho0 (below_size (by repeat (first | (with_reducible first | exact HB.out | apply below_alloc | apply pw_below_drewN | apply below_drew1) | exact HB.out)))); have n1_ := Aside0.mk (below_step (by repeat (first | (with_reducible first | exact HB.out | apply below_alloc | apply pw_below_drewN | apply below_drew1) | exact HB.out)) hb); clear HB; have HO776 := n0_; have HB := n1_; clear n0_ n1_; (try clear hb); (try clear hb2); (try clear hk); (try clear hi); (try clear ho0); obtain ⟨Ao52, co52, eo52⟩ := Kd.R_slice HO776.out; subst eo52) | ((with_reducible refine gate_callee (f := 44) rfl ?_); refine goesL_ (some 16) rfl rfl Try.func44 (by kernel_rfl) rfl #[.int .i64 t773, .slice Ao52 t774.length co52] rfl (by (try simp only [List.map_toArray, List.map_cons, List.map_nil]); first | done | rfl | (simp only [List.length_drop, List.length_take]; rfl)) ?_; (with_reducible refine (impl_MindNew.calls k t773 _ _ t774 t777 t778 t781 _ ?side1 ?side2 A4.out).mono ?_); (case side1 => repeat (first | exact (Kd.R_reads' HO776.out).2.2 | (with_reducible refine Kd.C_alloc ?_ _) | (with_reducible refine Kd.C_drewN ?_ _) | (with_reducible refine Kd.C_drew ?_))); (case side2 => exact (Kd.R_reads' HO776.out).2.1); rintro e w53 ⟨v779, v782, rfl, ho0, ho1, hb⟩; refine ⟨_, rfl, ?_⟩; have n0_ := Aside0.mk (Kd.R_elder' (by (with_reducible repeat (first | apply Kd.R_alloc | apply Kd.R_drewN | apply Kd.R_drew)); exact HO776.out) (Kd.R_base ho0) hb); have n1_ := Aside0.mk (Kd.R_lower (Kd.R_new' ho0 (Kd.R_lt (by (with_reducible repeat (first | apply Kd.R_alloc | apply Kd.R_drewN | apply Kd.R_drew)); exact HO776.out))) (below_size (by repeat (first | (with_reducible first | exact HB.out | apply below_alloc | apply pw_below_drewN | apply below_drew1) | exact HB.out)))); have n2_ := Aside0.mk (Kd.S_lower (Kd.S_new' ho1 (Kd.R_lt (by (with_reducible repeat (first | apply Kd.R_alloc | apply Kd.R_drewN | apply Kd.R_drew)); exact HO776.out))) (below_size (by repeat (first | (with_reducible first | exact HB.out | apply below_alloc | apply pw_below_drewN | apply below_drew1) | exact HB.out)))); have n3_ := Aside0.mk (below_step (by repeat (first | (with_reducible first | exact HB.out | apply below_alloc | apply pw_below_drewN | apply below_drew1) | exact HB.out)) hb); clear HO776; clear HB; have HO776 := n0_; have HO780 := n1_; have HO783 := n2_; have HB := n3_; clear n0_ n1_ n2_ n3_; (try clear hb); (try clear hb2); (try clear hk); (try clear hi); (try clear ho0); (try clear ho1)) | ((with_reducible refine gate_dst (N := 5) rfl ?_); (try (refine gate_guard (by rfl) ?_; dsimp only)); refine box_event ?hg (N := 5) ?hd (cs := #[.int .i64 0, .slice none 0 0, .slice none 0 0]) (t := 58) ?hr ?_; (case hd => rfl); (case hg => rfl); (case hr => first | (go_simp; done) | (go_simp; rfl)); intro gb784 hg w54 hbox hb; have n0_ := Aside0.mk (Kd.R_below (by (with_reducible repeat (first | apply Kd.R_alloc | apply Kd.R_drewN | apply Kd.R_drew)); exact HO776.out) hb); have n1_ := Aside0.mk (Kd.R_below (by (with_reducible repeat (first | apply Kd.R_alloc | apply Kd.R_drewN | apply Kd.R_drew)); exact HO780.out) hb); have n2_ := Aside0.mk (Kd.S_below (by (with_reducible repeat (first | apply Kd.S_alloc | apply Kd.S_drewN | apply Kd.S_drew)); exact HO783.out) hb); have n3_ := Aside0.mk (below_step (by repeat (first | (with_reducible first | exact HB.out | apply below_alloc | apply pw_below_drewN | apply below_drew1) | exact HB.out)) hb); have n4_ := Aside0.mk (hbox); have n5_ := Aside0.mk ((by rw [hg]; exact (below_size (by repeat (first | (with_reducible first | exact HB.out | apply below_alloc | apply pw_below_drewN | apply below_drew1) | exact HB.out))) : w.heap.size ≤ gb784)); have n6_ := Aside0.mk ((by rw [hg]; exact (below_size (by repeat (first | (with_reducible first | exact HB.out | apply below_alloc | apply pw_below_drewN | apply below_drew1) | exact HB.out))) : w.heap.size ≤ gb784)); clear HO776; clear HO780; clear HO783; clear HB; have HO776 := n0_; have HO780 := n1_; have HO783 := n2_; have HB := n3_; have BK784 := n4_; have GW784 := n5_; have GE784 := n6_; clear n0_ n1_ n2_ n3_ n4_ n5_ n6_; clear hb hbox hg; have hcz55_0 : w54.cell? ⟨gb784, 0, none⟩ = some (.int .i64 0) := (blk_cell BK784.out 0).trans rfl; have hcz55_1 : w54.cell? ⟨gb784, 1, none⟩ = some (.slice none 0 0) := (blk_cell BK784.out 1).trans rfl; have hcz55_2 : w54.cell? ⟨gb784, 2, none⟩ = some (.slice none 0 0) := (blk_cell BK784.out 2).trans rfl; have hfz55_0 := blk_frozen BK784.out 0; have hfz55_1 := blk_frozen BK784.out 1; have hfz55_2 := blk_frozen BK784.out 2; obtain ⟨Ao56, co56, eo56⟩ := Kd.R_slice HO780.out; subst eo56; obtain ⟨Ao57, co57, eo57⟩ := Kd.S_slice HO783.out; subst eo57))
          have n0_ : Aside0 (Kd.R (Kd.int .i64) 3 (((w54.setCell ⟨gb784, 0, none⟩ (.int .i64 t777)).setCell ⟨gb784, 1, none⟩ (.slice Ao56 t778.length co56)).setCell ⟨gb784, 2, none⟩ (.slice Ao57 t781.length co57)) w.heap.size (fun k_ => some k_ ≠ (.slice Ao56 t778.length co56 : Value).ownBlock) (.slice Ao52 t774.length co52) t774) := ⟨by (with_reducible repeat (first | apply Kd.R_alloc | apply Kd.R_drewN | apply Kd.R_drew)); exact Kd.R_mono (Kd.R_far (p := ⟨gb784, 2, none⟩) (Kd.R_far (p := ⟨gb784, 1, none⟩) (Kd.R_far (p := ⟨gb784, 0, none⟩) (Kd.R_types HO776.out BK784.out (by decide)) (fun _ hk => hk.2) (.int .i64 t777)) (fun _ hk => hk.2) (.slice Ao56 t778.length co56)) (fun _ hk => hk.2) (.slice Ao57 t781.length co57)) (fun _ hk => hk.1.2)⟩
          have n1_ : Aside0 (Kd.R (Kd.int .i64) 3 (((w54.setCell ⟨gb784, 0, none⟩ (.int .i64 t777)).setCell ⟨gb784, 1, none⟩ (.slice Ao56 t778.length co56)).setCell ⟨gb784, 2, none⟩ (.slice Ao57 t781.length co57)) w.heap.size (fun k_ => some k_ ≠ (.slice Ao52 t774.length co52 : Value).ownBlock) (.slice Ao56 t778.length co56) t778) := ⟨by (with_reducible repeat (first | apply Kd.R_alloc | apply Kd.R_drewN | apply Kd.R_drew)); exact Kd.R_mono (Kd.R_far (p := ⟨gb784, 2, none⟩) (Kd.R_far (p := ⟨gb784, 1, none⟩) (Kd.R_far (p := ⟨gb784, 0, none⟩) (Kd.R_types HO780.out BK784.out (by decide)) (fun _ hk => hk.2) (.int .i64 t777)) (fun _ hk => hk.2) (.slice Ao56 t778.length co56)) (fun _ hk => hk.2) (.slice Ao57 t781.length co57)) (fun _ hk => hk.1.2)⟩
          have n2_ : Aside0 (Kd.S (Kd.slice 3 (Kd.int .i64)) 55 (((w54.setCell ⟨gb784, 0, none⟩ (.int .i64 t777)).setCell ⟨gb784, 1, none⟩ (.slice Ao56 t778.length co56)).setCell ⟨gb784, 2, none⟩ (.slice Ao57 t781.length co57)) w.heap.size (fun k_ => some k_ ≠ (.slice Ao52 t774.length co52 : Value).ownBlock ∧ some k_ ≠ (.slice Ao56 t778.length co56 : Value).ownBlock) (.slice Ao57 t781.length co57) t781) := ⟨by (with_reducible repeat (first | apply Kd.S_alloc | apply Kd.S_drewN | apply Kd.S_drew)); exact Kd.S_mono (Kd.S_far (p := ⟨gb784, 2, none⟩) (Kd.S_far (p := ⟨gb784, 1, none⟩) (Kd.S_far (p := ⟨gb784, 0, none⟩) (Kd.S_types HO783.out BK784.out (by decide)) (fun _ hk => hk.2) (.int .i64 t777)) (fun _ hk => hk.2) (.slice Ao56 t778.length co56)) (fun _ hk => hk.2) (.slice Ao57 t781.length co57)) (fun _ hk => ⟨hk.1.2, hk.1.1⟩)⟩
          have n3_ : Aside0 ((((w54.setCell ⟨gb784, 0, none⟩ (.int .i64 t777)).setCell ⟨gb784, 1, none⟩ (.slice Ao56 t778.length co56)).setCell ⟨gb784, 2, none⟩ (.slice Ao57 t781.length co57)).heap[gb784]? = some (.cells #[.int .i64 t777, .slice Ao56 t778.length co56, .slice Ao57 t781.length co57] 58 (0, 0))) := ⟨by (with_reducible repeat (first | refine blk_drewN ?_ _ | refine blk_drew ?_ | refine blk_alloc ?_ _)); refine blk_put (cs := #[.int .i64 t777, .slice Ao56 t778.length co56, .slice none 0 0]) ?_ 2 _ rfl; (with_reducible repeat (first | refine blk_drewN ?_ _ | refine blk_drew ?_ | refine blk_alloc ?_ _)); refine blk_put (cs := #[.int .i64 t777, .slice none 0 0, .slice none 0 0]) ?_ 1 _ rfl; (with_reducible repeat (first | refine blk_drewN ?_ _ | refine blk_drew ?_ | refine blk_alloc ?_ _)); refine blk_put (cs := #[.int .i64 0, .slice none 0 0, .slice none 0 0]) ?_ 0 _ rfl; (with_reducible repeat (first | refine blk_drewN ?_ _ | refine blk_drew ?_ | refine blk_alloc ?_ _)); exact BK784.out⟩
          have n4_ : Aside0 (Below w.heap.size w (((w54.setCell ⟨gb784, 0, none⟩ (.int .i64 t777)).setCell ⟨gb784, 1, none⟩ (.slice Ao56 t778.length co56)).setCell ⟨gb784, 2, none⟩ (.slice Ao57 t781.length co57))) := ⟨by repeat (first | (with_reducible first | exact HB.out | apply below_alloc | apply pw_below_drewN | apply below_drew1 | refine below_set ?_ GE784.out) | exact HB.out)⟩
          (try clear HO776)
          (try clear HO780)
          (try clear HO783)
          (try clear BK784)
          (try clear HB)
          generalize (((w54.setCell ⟨gb784, 0, none⟩ (.int .i64 t777)).setCell ⟨gb784, 1, none⟩ (.slice Ao56 t778.length co56)).setCell ⟨gb784, 2, none⟩ (.slice Ao57 t781.length co57)) = w58 at n0_ n1_ n2_ n3_ n4_ ⊢
          have HO776 := n0_
          have HO780 := n1_
          have HO783 := n2_
          have BK784 := n3_
          have HB := n4_
          clear n0_ n1_ n2_ n3_ n4_
          have n0_ := Aside0.mk (Kd.R_drew HO776.out)
          have n1_ := Aside0.mk (Kd.R_drew HO780.out)
          have n2_ := Aside0.mk (Kd.S_drew HO783.out)
          have n3_ := Aside0.mk (blk_drew BK784.out)
          have n4_ := Aside0.mk (below_drew1 HB.out)
          clear HO776
          clear HO780
          clear HO783
          clear BK784
          clear HB
          have HO776 := n0_
          have HO780 := n1_
          have HO783 := n2_
          have BK784 := n3_
          have HB := n4_
          clear n0_ n1_ n2_ n3_ n4_
          refine start_ (n := 6) (S := fun w' => w'.cell? ⟨gb784, 0, none⟩ = some (.int .i64 t777) ∧ w'.cell? ⟨gb784, 1, none⟩ = some (.slice Ao56 t778.length co56) ∧ w'.cell? ⟨gb784, 2, none⟩ = some (.slice Ao57 t781.length co57)) (ds := []) #[false, false, false, false, false, false] (by kernel_rfl) rfl rfl ⟨(blk_cell BK784.out 0).trans rfl, (blk_cell BK784.out 1).trans rfl, (blk_cell BK784.out 2).trans rfl⟩ (fun hHeld => ?_)
          generalize w58.drew = w59 at HO776 HO780 HO783 BK784 HB hHeld ⊢
          refine pure_ (i := 1) (N := some 18) (v := ?_) (a' := ?_) #[false, true, false, false, false, false] rfl rfl (by kernel_rfl) (fun _ _ _ h => h) (Or.inl ⟨by rfl, ?_⟩) ?_ ?_
          rotate_left
          · intro w'
            go_simp
            with_reducible rfl
          rotate_left
          · simp only [Act.put, List.setIfInBounds_toArray, List.set_cons_zero, List.set_cons_succ, i64_w, i32_w]
            rfl
          refine pure_ (i := 2) (N := some 19) (v := ?_) (a' := ?_) #[false, true, true, false, false, false] rfl rfl (by kernel_rfl) (fun _ _ _ h => h) (Or.inl ⟨by rfl, ?_⟩) ?_ ?_
          rotate_left
          · intro w'
            go_simp
            with_reducible rfl
          rotate_left
          · simp only [Act.put, List.setIfInBounds_toArray, List.set_cons_zero, List.set_cons_succ, i64_w, i32_w]
            rfl
          refine take_ (i := 0) (N := some 17) (v := ?_) (a' := ?_) #[true, true, true, false, false, false] rfl rfl (by kernel_rfl) (fun _ _ _ h => h) (Or.inl ⟨by rfl, ?_⟩) hHeld ?_ ?_
          rotate_left
          · rintro w' ⟨s0, s1, s2⟩
            go_simp
            with_reducible rfl
          rotate_left
          · simp only [Act.put, List.setIfInBounds_toArray, List.set_cons_zero, List.set_cons_succ, i64_w, i32_w]
            rfl
          refine one_ (i := 3) (N := some 20) #[true, true, true, true, false, false] rfl rfl (by kernel_rfl) (by decide) (fun K hK => ?_)
          refine goes_ Try.func42 (by kernel_rfl) rfl #[.int .i64 t773, .slice Ao52 t774.length co52] (by rfl) rfl rfl (by (try simp only [List.map_toArray, List.map_cons, List.map_nil]); first | done | rfl | (simp only [List.length_drop, List.length_take]; rfl)) ?_
          with_reducible refine (spec_MindNew.calls k t773 _ _ t774 t785 t786 t789 _ ?side1 ?side2 A5.out).mono ?_
          (case side1 => repeat (first | exact (Kd.R_reads' HO776.out).2.2 | (with_reducible refine Kd.C_alloc ?_ _) | (with_reducible refine Kd.C_drewN ?_ _) | (with_reducible refine Kd.C_drew ?_)))
          (case side2 => exact (Kd.R_reads' HO776.out).2.1)
          rintro e w60 ⟨v787, v790, rfl, ho0, ho1, hb⟩
          refine ⟨_, rfl, ?_⟩
          have n0_ := Aside0.mk (Kd.R_elder' (by (with_reducible repeat (first | apply Kd.R_alloc | apply Kd.R_drewN | apply Kd.R_drew)); exact HO776.out) (Kd.R_base ho0) hb)
          have n1_ := Aside0.mk (Kd.R_elder' (by (with_reducible repeat (first | apply Kd.R_alloc | apply Kd.R_drewN | apply Kd.R_drew)); exact HO780.out) (Kd.R_base ho0) hb)
          have n2_ := Aside0.mk (Kd.S_mono (Kd.S_told (Kd.S_told (Kd.S_old (by (with_reducible repeat (first | apply Kd.S_alloc | apply Kd.S_drewN | apply Kd.S_drew)); exact HO783.out) hb) (Kd.R_base ho0)) (Kd.S_base ho1)) (fun _ h_ => h_.1))
          have n3_ := Aside0.mk (Kd.R_lower (Kd.R_new' (Kd.R_new' ho0 (Kd.R_lt (by (with_reducible repeat (first | apply Kd.R_alloc | apply Kd.R_drewN | apply Kd.R_drew)); exact HO776.out))) (Kd.R_lt (by (with_reducible repeat (first | apply Kd.R_alloc | apply Kd.R_drewN | apply Kd.R_drew)); exact HO780.out))) (below_size (by repeat (first | (with_reducible first | exact HB.out | apply below_alloc | apply pw_below_drewN | apply below_drew1 | refine below_set ?_ GE784.out) | exact HB.out))))
          have n4_ := Aside0.mk (Kd.S_lower (Kd.S_new' (Kd.S_new' (Kd.S_new' ho1 (Kd.R_lt (by (with_reducible repeat (first | apply Kd.R_alloc | apply Kd.R_drewN | apply Kd.R_drew)); exact HO776.out))) (Kd.R_lt (by (with_reducible repeat (first | apply Kd.R_alloc | apply Kd.R_drewN | apply Kd.R_drew)); exact HO780.out))) (Kd.S_lt (by (with_reducible repeat (first | apply Kd.S_alloc | apply Kd.S_drewN | apply Kd.S_drew)); exact HO783.out))) (below_size (by repeat (first | (with_reducible first | exact HB.out | apply below_alloc | apply pw_below_drewN | apply below_drew1 | refine below_set ?_ GE784.out) | exact HB.out))))
          have n5_ := Aside0.mk (blk_below (g := gb784) (o := .cells #[.int .i64 t777, .slice Ao56 t778.length co56, .slice Ao57 t781.length co57] 58 (0, 0)) (by (with_reducible repeat (first | refine blk_drewN ?_ _ | refine blk_drew ?_ | refine blk_alloc ?_ _)); exact BK784.out) hb)
          have n6_ := Aside0.mk (below_step (by repeat (first | (with_reducible first | exact HB.out | apply below_alloc | apply pw_below_drewN | apply below_drew1 | refine below_set ?_ GE784.out) | exact HB.out)) hb)
          clear HO776
          clear HO780
          clear HO783
          clear BK784
          clear HB
          have HO776 := n0_
          have HO780 := n1_
          have HO783 := n2_
          have HO788 := n3_
          have HO791 := n4_
          have BK784 := n5_
          have HB := n6_
          clear n0_ n1_ n2_ n3_ n4_ n5_ n6_
          (try clear hb)
          (try clear hb2)
          (try clear hk)
          (try clear hi)
          (try clear ho0)
          (try clear ho1)
          obtain ⟨Ao61, co61, eo61⟩ := Kd.R_slice HO788.out
          (first | subst eo61 | (injection eo61 with f1_ f2_ f3_; have f4_ := f1_.symm; have f5_ := f3_.symm; clear f1_ f2_ f3_; subst f4_; subst f5_))
          obtain ⟨Ao62, co62, eo62⟩ := Kd.S_slice HO791.out
          (first | subst eo62 | (injection eo62 with f1_ f2_ f3_; have f4_ := f1_.symm; have f5_ := f3_.symm; clear f1_ f2_ f3_; subst f4_; subst f5_))
          refine hK.out _ _ ⟨(blk_cell BK784.out 0).trans rfl, (blk_cell BK784.out 1).trans rfl, (blk_cell BK784.out 2).trans rfl⟩ (fun hHeld => ?_)
          clear hK K
          refine norm_ (a' := ?_) ?_ ?_
          rotate_left
          · show Act.put _ (some 20) _ = _
            simp only [Act.put, List.setIfInBounds_toArray, List.set_cons_zero, List.set_cons_succ, i64_w, i32_w]
            rfl
          refine one_ (i := 4) (N := some 21) #[true, true, true, true, true, false] rfl rfl (by kernel_rfl) (by decide) (fun K hK => ?_)
          refine goes_ Try.func58 (by kernel_rfl) rfl #[.agg #[.int .i64 t777, .slice Ao56 t778.length co56, .slice Ao57 t781.length co57], .agg #[.int .i64 t785, .slice Ao61 t786.length co61, .slice Ao62 t789.length co62]] (by rfl) rfl rfl (by (try simp only [List.map_toArray, List.map_cons, List.map_nil]); first | done | rfl | (simp only [List.length_drop, List.length_take]; rfl)) ?_
          with_reducible refine (laws_sameMind.calls k t777 _ _ t778 _ _ t781 t785 _ _ t786 _ _ t789 true _ ?side1 ?side2 ?side3 ?side4 ?side5 ?side6 ?side7 ?side8 A6.out).mono ?_
          (case side1 => repeat (first | exact (Kd.R_reads' HO780.out).2.2 | (with_reducible refine Kd.C_alloc ?_ _) | (with_reducible refine Kd.C_drewN ?_ _) | (with_reducible refine Kd.C_drew ?_)))
          (case side2 => exact (Kd.R_reads' HO780.out).2.1)
          (case side3 => repeat (first | exact (Kd.S_reads' HO783.out).2.2 | (with_reducible refine Kd.C_alloc ?_ _) | (with_reducible refine Kd.C_drewN ?_ _) | (with_reducible refine Kd.C_drew ?_)))
          (case side4 => exact (Kd.S_reads' HO783.out).2.1)
          (case side5 => repeat (first | exact (Kd.R_reads' HO788.out).2.2 | (with_reducible refine Kd.C_alloc ?_ _) | (with_reducible refine Kd.C_drewN ?_ _) | (with_reducible refine Kd.C_drew ?_)))
          (case side6 => exact (Kd.R_reads' HO788.out).2.1)
          (case side7 => repeat (first | exact (Kd.S_reads' HO791.out).2.2 | (with_reducible refine Kd.C_alloc ?_ _) | (with_reducible refine Kd.C_drewN ?_ _) | (with_reducible refine Kd.C_drew ?_)))
          (case side8 => exact (Kd.S_reads' HO791.out).2.1)
          rintro e w63 ⟨rfl, hb⟩
          refine ⟨_, rfl, ?_⟩
          have n0_ := Aside0.mk (Kd.R_below (by (with_reducible repeat (first | apply Kd.R_alloc | apply Kd.R_drewN | apply Kd.R_drew)); exact HO776.out) hb)
          have n1_ := Aside0.mk (Kd.R_below (by (with_reducible repeat (first | apply Kd.R_alloc | apply Kd.R_drewN | apply Kd.R_drew)); exact HO780.out) hb)
          have n2_ := Aside0.mk (Kd.S_below (by (with_reducible repeat (first | apply Kd.S_alloc | apply Kd.S_drewN | apply Kd.S_drew)); exact HO783.out) hb)
          have n3_ := Aside0.mk (Kd.R_below (by (with_reducible repeat (first | apply Kd.R_alloc | apply Kd.R_drewN | apply Kd.R_drew)); exact HO788.out) hb)
          have n4_ := Aside0.mk (Kd.S_below (by (with_reducible repeat (first | apply Kd.S_alloc | apply Kd.S_drewN | apply Kd.S_drew)); exact HO791.out) hb)
          have n5_ := Aside0.mk (blk_below (g := gb784) (o := .cells #[.int .i64 t777, .slice Ao56 t778.length co56, .slice Ao57 t781.length co57] 58 (0, 0)) (by (with_reducible repeat (first | refine blk_drewN ?_ _ | refine blk_drew ?_ | refine blk_alloc ?_ _)); exact BK784.out) hb)
          have n6_ := Aside0.mk (below_step (by repeat (first | (with_reducible first | exact HB.out | apply below_alloc | apply pw_below_drewN | apply below_drew1 | refine below_set ?_ GE784.out) | exact HB.out)) hb)
          clear HO776
          clear HO780
          clear HO783
          clear HO788
          clear HO791
          clear BK784
          clear HB
          have HO776 := n0_
          have HO780 := n1_
          have HO783 := n2_
          have HO788 := n3_
          have HO791 := n4_
          have BK784 := n5_
          have HB := n6_
          clear n0_ n1_ n2_ n3_ n4_ n5_ n6_
          (try clear hb)
          (try clear hb2)
          (try clear hk)
          (try clear hi)
          refine hK.out _ _ ⟨(blk_cell BK784.out 0).trans rfl, (blk_cell BK784.out 1).trans rfl, (blk_cell BK784.out 2).trans rfl⟩ (fun hHeld => ?_)
          clear hK K
          refine norm_ (a' := ?_) ?_ ?_
          rotate_left
          · show Act.put _ (some 21) _ = _
            simp only [Act.put, List.setIfInBounds_toArray, List.set_cons_zero, List.set_cons_succ, i64_w, i32_w]
            rfl
          refine pure_ (i := 5) (N := some 22) (v := ?_) (a' := ?_) #[true, true, true, true, true, true] rfl rfl (by kernel_rfl) (fun _ _ _ h => h) (Or.inl ⟨by rfl, ?_⟩) ?_ ?_
          rotate_left
          · intro w'
            go_simp
            with_reducible rfl
          rotate_left
          · simp only [Act.put, List.setIfInBounds_toArray, List.set_cons_zero, List.set_cons_succ, i64_w, i32_w]
            rfl
          refine done_ (by kernel_rfl) ?_
          try go_wp2_with (first | ((with_reducible refine gate_callee (f := 59) rfl ?_); refine goesL_ (some 25) rfl rfl Try.func59 (by kernel_rfl) rfl #[.int .i64 t773, .slice Ao52 t774.length co52] rfl (by (try simp only [List.map_toArray, List.map_cons, List.map_nil]); first | done | rfl | (simp only [List.length_drop, List.length_take]; rfl)) ?_; (with_reducible refine (spec_RankOk.calls k t773 _ _ t774 true _ ?side1 ?side2 A8.out).mono ?_); (case side1 => repeat (first | exact (Kd.R_reads' HO776.out).2.2 | (with_reducible refine Kd.C_alloc ?_ _) | (with_reducible refine Kd.C_drewN ?_ _) | (with_reducible refine Kd.C_drew ?_))); (case side2 => exact (Kd.R_reads' HO776.out).2.1); rintro e w64 ⟨rfl, hb⟩; refine ⟨_, rfl, ?_⟩; have n0_ := Aside0.mk (Kd.R_below (by (with_reducible repeat (first | apply Kd.R_alloc | apply Kd.R_drewN | apply Kd.R_drew)); exact HO776.out) hb); have n1_ := Aside0.mk (Kd.R_below (by (with_reducible repeat (first | apply Kd.R_alloc | apply Kd.R_drewN | apply Kd.R_drew)); exact HO780.out) hb); have n2_ := Aside0.mk (Kd.S_below (by (with_reducible repeat (first | apply Kd.S_alloc | apply Kd.S_drewN | apply Kd.S_drew)); exact HO783.out) hb); have n3_ := Aside0.mk (Kd.R_below (by (with_reducible repeat (first | apply Kd.R_alloc | apply Kd.R_drewN | apply Kd.R_drew)); exact HO788.out) hb); have n4_ := Aside0.mk (Kd.S_below (by (with_reducible repeat (first | apply Kd.S_alloc | apply Kd.S_drewN | apply Kd.S_drew)); exact HO791.out) hb); have n5_ := Aside0.mk (blk_below (g := gb784) (o := .cells #[.int .i64 t777, .slice Ao56 t778.length co56, .slice Ao57 t781.length co57] 58 (0, 0)) (by (with_reducible repeat (first | refine blk_drewN ?_ _ | refine blk_drew ?_ | refine blk_alloc ?_ _)); exact BK784.out) hb); have n6_ := Aside0.mk (below_step (by repeat (first | (with_reducible first | exact HB.out | apply below_alloc | apply pw_below_drewN | apply below_drew1 | refine below_set ?_ GE784.out) | exact HB.out)) hb); clear HO776; clear HO780; clear HO783; clear HO788; clear HO791; clear BK784; clear HB; have HO776 := n0_; have HO780 := n1_; have HO783 := n2_; have HO788 := n3_; have HO791 := n4_; have BK784 := n5_; have HB := n6_; clear n0_ n1_ n2_ n3_ n4_ n5_ n6_; (try clear hb); (try clear hb2); (try clear hk); (try clear hi); have hcz65_0 : w64.cell? ⟨gb784, 0, none⟩ = some (.int .i64 t777) := (blk_cell BK784.out 0).trans rfl; have hcz65_1 : w64.cell? ⟨gb784, 1, none⟩ = some (.slice Ao56 t778.length co56) := (blk_cell BK784.out 1).trans rfl; have hcz65_2 : w64.cell? ⟨gb784, 2, none⟩ = some (.slice Ao57 t781.length co57) := (blk_cell BK784.out 2).trans rfl; have hfz65_0 := blk_frozen BK784.out 0; have hfz65_1 := blk_frozen BK784.out 1; have hfz65_2 := blk_frozen BK784.out 2) | ((with_reducible refine gate_callee (f := 54) rfl ?_); refine goesL_ (some 33) rfl rfl Try.func54 (by kernel_rfl) rfl #[.agg #[.int .i64 t777, .slice Ao56 t778.length co56, .slice Ao57 t781.length co57]] rfl (by (try simp only [List.map_toArray, List.map_cons, List.map_nil]); first | done | rfl | (simp only [List.length_drop, List.length_take]; rfl)) ?_; (with_reducible refine (impl_MindValid.calls k t777 _ _ t778 _ _ t781 false _ ?side1 ?side2 ?side3 ?side4 A10.out).mono ?_); (case side1 => repeat (first | exact (Kd.R_reads' HO780.out).2.2 | (with_reducible refine Kd.C_alloc ?_ _) | (with_reducible refine Kd.C_drewN ?_ _) | (with_reducible refine Kd.C_drew ?_))); (case side2 => exact (Kd.R_reads' HO780.out).2.1); (case side3 => repeat (first | exact (Kd.S_reads' HO783.out).2.2 | (with_reducible refine Kd.C_alloc ?_ _) | (with_reducible refine Kd.C_drewN ?_ _) | (with_reducible refine Kd.C_drew ?_))); (case side4 => exact (Kd.S_reads' HO783.out).2.1); rintro e w66 ⟨rfl, hb⟩; refine ⟨_, rfl, ?_⟩; have n0_ := Aside0.mk (Kd.R_below (by (with_reducible repeat (first | apply Kd.R_alloc | apply Kd.R_drewN | apply Kd.R_drew)); exact HO776.out) hb); have n1_ := Aside0.mk (Kd.R_below (by (with_reducible repeat (first | apply Kd.R_alloc | apply Kd.R_drewN | apply Kd.R_drew)); exact HO780.out) hb); have n2_ := Aside0.mk (Kd.S_below (by (with_reducible repeat (first | apply Kd.S_alloc | apply Kd.S_drewN | apply Kd.S_drew)); exact HO783.out) hb); have n3_ := Aside0.mk (Kd.R_below (by (with_reducible repeat (first | apply Kd.R_alloc | apply Kd.R_drewN | apply Kd.R_drew)); exact HO788.out) hb); have n4_ := Aside0.mk (Kd.S_below (by (with_reducible repeat (first | apply Kd.S_alloc | apply Kd.S_drewN | apply Kd.S_drew)); exact HO791.out) hb); have n5_ := Aside0.mk (blk_below (g := gb784) (o := .cells #[.int .i64 t777, .slice Ao56 t778.length co56, .slice Ao57 t781.length co57] 58 (0, 0)) (by (with_reducible repeat (first | refine blk_drewN ?_ _ | refine blk_drew ?_ | refine blk_alloc ?_ _)); exact BK784.out) hb); have n6_ := Aside0.mk (below_step (by repeat (first | (with_reducible first | exact HB.out | apply below_alloc | apply pw_below_drewN | apply below_drew1 | refine below_set ?_ GE784.out) | exact HB.out)) hb); clear HO776; clear HO780; clear HO783; clear HO788; clear HO791; clear BK784; clear HB; have HO776 := n0_; have HO780 := n1_; have HO783 := n2_; have HO788 := n3_; have HO791 := n4_; have BK784 := n5_; have HB := n6_; clear n0_ n1_ n2_ n3_ n4_ n5_ n6_; (try clear hb); (try clear hb2); (try clear hk); (try clear hi)))
          go_ret
          exact ⟨by first | rfl | (simp [errW_none, errW_some] <;> rfl) | (simp [*, errW_none, errW_some] <;> rfl), by repeat (first | (with_reducible first | exact HB.out | apply below_alloc | apply pw_below_drewN | apply below_drew1 | refine below_set ?_ GE784.out) | exact HB.out)⟩
      · replace c9 := Bool.eq_false_iff.mpr c9
        subst c9
        have H1 : ((laws_noMind.f k t777 t778 t781).bind fun t796 => (if t796 = true then ((laws_alive.f).bind fun t797 => (some t797)) else (some false))) = some r := by rw [if_neg (show ¬ (false = true) by decide)] at H; exact H
        clear H
        have H := H1
        clear H1
        replace H := Option.bind_eq_some_iff.mp H
        obtain ⟨t796, A670, H⟩ := H
        replace H : (if t796 = true then ((laws_alive.f).bind fun t797 => (some t797)) else (some false)) = some r := H
        have A67 := Aside0.mk A670
        clear A670
        by_cases c68 : t796 = true
        · subst c68
          have H1 : ((laws_alive.f).bind fun t797 => (some t797)) = some r := by rw [if_pos rfl] at H; exact H
          clear H
          have H := H1
          clear H1
          replace H := Option.bind_eq_some_iff.mp H
          obtain ⟨t797, A690, H⟩ := H
          replace H : (some t797) = some r := H
          have A69 := Aside0.mk A690
          clear A690
          obtain rfl := Option.some.inj H
          go_enter Try.func13, Try.ntmps13
          try go_wp2_with (first | ((with_reducible refine gate_callee (f := 57) rfl ?_); refine goesL_ (some 11) rfl rfl Try.func57 (by kernel_rfl) rfl #[.slice A0 l0.length c0] rfl (by (try simp only [List.map_toArray, List.map_cons, List.map_nil]); first | done | rfl | (simp only [List.length_drop, List.length_take]; rfl)) ?_; (with_reducible refine (spec_DrawMindNew.calls k _ _ l0 t773 t774 _ ?side1 ?side2 A3.out).mono ?_); (case side1 => repeat (first | exact HR0.out | (with_reducible refine Kd.C_alloc ?_ _) | (with_reducible refine Kd.C_drewN ?_ _) | (with_reducible refine Kd.C_drew ?_))); (case side2 => exact HC0.out); rintro e w70 ⟨v775, rfl, ho0, hb⟩; refine ⟨_, rfl, ?_⟩; have n0_ := Aside0.mk (Kd.R_lower ho0 (below_size (by repeat (first | (with_reducible first | exact HB.out | apply below_alloc | apply pw_below_drewN | apply below_drew1) | exact HB.out)))); have n1_ := Aside0.mk (below_step (by repeat (first | (with_reducible first | exact HB.out | apply below_alloc | apply pw_below_drewN | apply below_drew1) | exact HB.out)) hb); clear HB; have HO776 := n0_; have HB := n1_; clear n0_ n1_; (try clear hb); (try clear hb2); (try clear hk); (try clear hi); (try clear ho0); obtain ⟨Ao71, co71, eo71⟩ := Kd.R_slice HO776.out; subst eo71) | ((with_reducible refine gate_callee (f := 44) rfl ?_); refine goesL_ (some 16) rfl rfl Try.func44 (by kernel_rfl) rfl #[.int .i64 t773, .slice Ao71 t774.length co71] rfl (by (try simp only [List.map_toArray, List.map_cons, List.map_nil]); first | done | rfl | (simp only [List.length_drop, List.length_take]; rfl)) ?_; (with_reducible refine (impl_MindNew.calls k t773 _ _ t774 t777 t778 t781 _ ?side1 ?side2 A4.out).mono ?_); (case side1 => repeat (first | exact (Kd.R_reads' HO776.out).2.2 | (with_reducible refine Kd.C_alloc ?_ _) | (with_reducible refine Kd.C_drewN ?_ _) | (with_reducible refine Kd.C_drew ?_))); (case side2 => exact (Kd.R_reads' HO776.out).2.1); rintro e w72 ⟨v779, v782, rfl, ho0, ho1, hb⟩; refine ⟨_, rfl, ?_⟩; have n0_ := Aside0.mk (Kd.R_elder' (by (with_reducible repeat (first | apply Kd.R_alloc | apply Kd.R_drewN | apply Kd.R_drew)); exact HO776.out) (Kd.R_base ho0) hb); have n1_ := Aside0.mk (Kd.R_lower (Kd.R_new' ho0 (Kd.R_lt (by (with_reducible repeat (first | apply Kd.R_alloc | apply Kd.R_drewN | apply Kd.R_drew)); exact HO776.out))) (below_size (by repeat (first | (with_reducible first | exact HB.out | apply below_alloc | apply pw_below_drewN | apply below_drew1) | exact HB.out)))); have n2_ := Aside0.mk (Kd.S_lower (Kd.S_new' ho1 (Kd.R_lt (by (with_reducible repeat (first | apply Kd.R_alloc | apply Kd.R_drewN | apply Kd.R_drew)); exact HO776.out))) (below_size (by repeat (first | (with_reducible first | exact HB.out | apply below_alloc | apply pw_below_drewN | apply below_drew1) | exact HB.out)))); have n3_ := Aside0.mk (below_step (by repeat (first | (with_reducible first | exact HB.out | apply below_alloc | apply pw_below_drewN | apply below_drew1) | exact HB.out)) hb); clear HO776; clear HB; have HO776 := n0_; have HO780 := n1_; have HO783 := n2_; have HB := n3_; clear n0_ n1_ n2_ n3_; (try clear hb); (try clear hb2); (try clear hk); (try clear hi); (try clear ho0); (try clear ho1)) | ((with_reducible refine gate_dst (N := 5) rfl ?_); (try (refine gate_guard (by rfl) ?_; dsimp only)); refine box_event ?hg (N := 5) ?hd (cs := #[.int .i64 0, .slice none 0 0, .slice none 0 0]) (t := 58) ?hr ?_; (case hd => rfl); (case hg => rfl); (case hr => first | (go_simp; done) | (go_simp; rfl)); intro gb784 hg w73 hbox hb; have n0_ := Aside0.mk (Kd.R_below (by (with_reducible repeat (first | apply Kd.R_alloc | apply Kd.R_drewN | apply Kd.R_drew)); exact HO776.out) hb); have n1_ := Aside0.mk (Kd.R_below (by (with_reducible repeat (first | apply Kd.R_alloc | apply Kd.R_drewN | apply Kd.R_drew)); exact HO780.out) hb); have n2_ := Aside0.mk (Kd.S_below (by (with_reducible repeat (first | apply Kd.S_alloc | apply Kd.S_drewN | apply Kd.S_drew)); exact HO783.out) hb); have n3_ := Aside0.mk (below_step (by repeat (first | (with_reducible first | exact HB.out | apply below_alloc | apply pw_below_drewN | apply below_drew1) | exact HB.out)) hb); have n4_ := Aside0.mk (hbox); have n5_ := Aside0.mk ((by rw [hg]; exact (below_size (by repeat (first | (with_reducible first | exact HB.out | apply below_alloc | apply pw_below_drewN | apply below_drew1) | exact HB.out))) : w.heap.size ≤ gb784)); have n6_ := Aside0.mk ((by rw [hg]; exact (below_size (by repeat (first | (with_reducible first | exact HB.out | apply below_alloc | apply pw_below_drewN | apply below_drew1) | exact HB.out))) : w.heap.size ≤ gb784)); clear HO776; clear HO780; clear HO783; clear HB; have HO776 := n0_; have HO780 := n1_; have HO783 := n2_; have HB := n3_; have BK784 := n4_; have GW784 := n5_; have GE784 := n6_; clear n0_ n1_ n2_ n3_ n4_ n5_ n6_; clear hb hbox hg; have hcz74_0 : w73.cell? ⟨gb784, 0, none⟩ = some (.int .i64 0) := (blk_cell BK784.out 0).trans rfl; have hcz74_1 : w73.cell? ⟨gb784, 1, none⟩ = some (.slice none 0 0) := (blk_cell BK784.out 1).trans rfl; have hcz74_2 : w73.cell? ⟨gb784, 2, none⟩ = some (.slice none 0 0) := (blk_cell BK784.out 2).trans rfl; have hfz74_0 := blk_frozen BK784.out 0; have hfz74_1 := blk_frozen BK784.out 1; have hfz74_2 := blk_frozen BK784.out 2; obtain ⟨Ao75, co75, eo75⟩ := Kd.R_slice HO780.out; subst eo75; obtain ⟨Ao76, co76, eo76⟩ := Kd.S_slice HO783.out; subst eo76))
          have n0_ : Aside0 (Kd.R (Kd.int .i64) 3 (((w73.setCell ⟨gb784, 0, none⟩ (.int .i64 t777)).setCell ⟨gb784, 1, none⟩ (.slice Ao75 t778.length co75)).setCell ⟨gb784, 2, none⟩ (.slice Ao76 t781.length co76)) w.heap.size (fun k_ => some k_ ≠ (.slice Ao75 t778.length co75 : Value).ownBlock) (.slice Ao71 t774.length co71) t774) := ⟨by (with_reducible repeat (first | apply Kd.R_alloc | apply Kd.R_drewN | apply Kd.R_drew)); exact Kd.R_mono (Kd.R_far (p := ⟨gb784, 2, none⟩) (Kd.R_far (p := ⟨gb784, 1, none⟩) (Kd.R_far (p := ⟨gb784, 0, none⟩) (Kd.R_types HO776.out BK784.out (by decide)) (fun _ hk => hk.2) (.int .i64 t777)) (fun _ hk => hk.2) (.slice Ao75 t778.length co75)) (fun _ hk => hk.2) (.slice Ao76 t781.length co76)) (fun _ hk => hk.1.2)⟩
          have n1_ : Aside0 (Kd.R (Kd.int .i64) 3 (((w73.setCell ⟨gb784, 0, none⟩ (.int .i64 t777)).setCell ⟨gb784, 1, none⟩ (.slice Ao75 t778.length co75)).setCell ⟨gb784, 2, none⟩ (.slice Ao76 t781.length co76)) w.heap.size (fun k_ => some k_ ≠ (.slice Ao71 t774.length co71 : Value).ownBlock) (.slice Ao75 t778.length co75) t778) := ⟨by (with_reducible repeat (first | apply Kd.R_alloc | apply Kd.R_drewN | apply Kd.R_drew)); exact Kd.R_mono (Kd.R_far (p := ⟨gb784, 2, none⟩) (Kd.R_far (p := ⟨gb784, 1, none⟩) (Kd.R_far (p := ⟨gb784, 0, none⟩) (Kd.R_types HO780.out BK784.out (by decide)) (fun _ hk => hk.2) (.int .i64 t777)) (fun _ hk => hk.2) (.slice Ao75 t778.length co75)) (fun _ hk => hk.2) (.slice Ao76 t781.length co76)) (fun _ hk => hk.1.2)⟩
          have n2_ : Aside0 (Kd.S (Kd.slice 3 (Kd.int .i64)) 55 (((w73.setCell ⟨gb784, 0, none⟩ (.int .i64 t777)).setCell ⟨gb784, 1, none⟩ (.slice Ao75 t778.length co75)).setCell ⟨gb784, 2, none⟩ (.slice Ao76 t781.length co76)) w.heap.size (fun k_ => some k_ ≠ (.slice Ao71 t774.length co71 : Value).ownBlock ∧ some k_ ≠ (.slice Ao75 t778.length co75 : Value).ownBlock) (.slice Ao76 t781.length co76) t781) := ⟨by (with_reducible repeat (first | apply Kd.S_alloc | apply Kd.S_drewN | apply Kd.S_drew)); exact Kd.S_mono (Kd.S_far (p := ⟨gb784, 2, none⟩) (Kd.S_far (p := ⟨gb784, 1, none⟩) (Kd.S_far (p := ⟨gb784, 0, none⟩) (Kd.S_types HO783.out BK784.out (by decide)) (fun _ hk => hk.2) (.int .i64 t777)) (fun _ hk => hk.2) (.slice Ao75 t778.length co75)) (fun _ hk => hk.2) (.slice Ao76 t781.length co76)) (fun _ hk => ⟨hk.1.2, hk.1.1⟩)⟩
          have n3_ : Aside0 ((((w73.setCell ⟨gb784, 0, none⟩ (.int .i64 t777)).setCell ⟨gb784, 1, none⟩ (.slice Ao75 t778.length co75)).setCell ⟨gb784, 2, none⟩ (.slice Ao76 t781.length co76)).heap[gb784]? = some (.cells #[.int .i64 t777, .slice Ao75 t778.length co75, .slice Ao76 t781.length co76] 58 (0, 0))) := ⟨by (with_reducible repeat (first | refine blk_drewN ?_ _ | refine blk_drew ?_ | refine blk_alloc ?_ _)); refine blk_put (cs := #[.int .i64 t777, .slice Ao75 t778.length co75, .slice none 0 0]) ?_ 2 _ rfl; (with_reducible repeat (first | refine blk_drewN ?_ _ | refine blk_drew ?_ | refine blk_alloc ?_ _)); refine blk_put (cs := #[.int .i64 t777, .slice none 0 0, .slice none 0 0]) ?_ 1 _ rfl; (with_reducible repeat (first | refine blk_drewN ?_ _ | refine blk_drew ?_ | refine blk_alloc ?_ _)); refine blk_put (cs := #[.int .i64 0, .slice none 0 0, .slice none 0 0]) ?_ 0 _ rfl; (with_reducible repeat (first | refine blk_drewN ?_ _ | refine blk_drew ?_ | refine blk_alloc ?_ _)); exact BK784.out⟩
          have n4_ : Aside0 (Below w.heap.size w (((w73.setCell ⟨gb784, 0, none⟩ (.int .i64 t777)).setCell ⟨gb784, 1, none⟩ (.slice Ao75 t778.length co75)).setCell ⟨gb784, 2, none⟩ (.slice Ao76 t781.length co76))) := ⟨by repeat (first | (with_reducible first | exact HB.out | apply below_alloc | apply pw_below_drewN | apply below_drew1 | refine below_set ?_ GE784.out) | exact HB.out)⟩
          (try clear HO776)
          (try clear HO780)
          (try clear HO783)
          (try clear BK784)
          (try clear HB)
          generalize (((w73.setCell ⟨gb784, 0, none⟩ (.int .i64 t777)).setCell ⟨gb784, 1, none⟩ (.slice Ao75 t778.length co75)).setCell ⟨gb784, 2, none⟩ (.slice Ao76 t781.length co76)) = w77 at n0_ n1_ n2_ n3_ n4_ ⊢
          have HO776 := n0_
          have HO780 := n1_
          have HO783 := n2_
          have BK784 := n3_
          have HB := n4_
          clear n0_ n1_ n2_ n3_ n4_
          have n0_ := Aside0.mk (Kd.R_drew HO776.out)
          have n1_ := Aside0.mk (Kd.R_drew HO780.out)
          have n2_ := Aside0.mk (Kd.S_drew HO783.out)
          have n3_ := Aside0.mk (blk_drew BK784.out)
          have n4_ := Aside0.mk (below_drew1 HB.out)
          clear HO776
          clear HO780
          clear HO783
          clear BK784
          clear HB
          have HO776 := n0_
          have HO780 := n1_
          have HO783 := n2_
          have BK784 := n3_
          have HB := n4_
          clear n0_ n1_ n2_ n3_ n4_
          refine start_ (n := 6) (S := fun w' => w'.cell? ⟨gb784, 0, none⟩ = some (.int .i64 t777) ∧ w'.cell? ⟨gb784, 1, none⟩ = some (.slice Ao75 t778.length co75) ∧ w'.cell? ⟨gb784, 2, none⟩ = some (.slice Ao76 t781.length co76)) (ds := []) #[false, false, false, false, false, false] (by kernel_rfl) rfl rfl ⟨(blk_cell BK784.out 0).trans rfl, (blk_cell BK784.out 1).trans rfl, (blk_cell BK784.out 2).trans rfl⟩ (fun hHeld => ?_)
          generalize w77.drew = w78 at HO776 HO780 HO783 BK784 HB hHeld ⊢
          refine pure_ (i := 1) (N := some 18) (v := ?_) (a' := ?_) #[false, true, false, false, false, false] rfl rfl (by kernel_rfl) (fun _ _ _ h => h) (Or.inl ⟨by rfl, ?_⟩) ?_ ?_
          rotate_left
          · intro w'
            go_simp
            with_reducible rfl
          rotate_left
          · simp only [Act.put, List.setIfInBounds_toArray, List.set_cons_zero, List.set_cons_succ, i64_w, i32_w]
            rfl
          refine pure_ (i := 2) (N := some 19) (v := ?_) (a' := ?_) #[false, true, true, false, false, false] rfl rfl (by kernel_rfl) (fun _ _ _ h => h) (Or.inl ⟨by rfl, ?_⟩) ?_ ?_
          rotate_left
          · intro w'
            go_simp
            with_reducible rfl
          rotate_left
          · simp only [Act.put, List.setIfInBounds_toArray, List.set_cons_zero, List.set_cons_succ, i64_w, i32_w]
            rfl
          refine take_ (i := 0) (N := some 17) (v := ?_) (a' := ?_) #[true, true, true, false, false, false] rfl rfl (by kernel_rfl) (fun _ _ _ h => h) (Or.inl ⟨by rfl, ?_⟩) hHeld ?_ ?_
          rotate_left
          · rintro w' ⟨s0, s1, s2⟩
            go_simp
            with_reducible rfl
          rotate_left
          · simp only [Act.put, List.setIfInBounds_toArray, List.set_cons_zero, List.set_cons_succ, i64_w, i32_w]
            rfl
          refine one_ (i := 3) (N := some 20) #[true, true, true, true, false, false] rfl rfl (by kernel_rfl) (by decide) (fun K hK => ?_)
          refine goes_ Try.func42 (by kernel_rfl) rfl #[.int .i64 t773, .slice Ao71 t774.length co71] (by rfl) rfl rfl (by (try simp only [List.map_toArray, List.map_cons, List.map_nil]); first | done | rfl | (simp only [List.length_drop, List.length_take]; rfl)) ?_
          with_reducible refine (spec_MindNew.calls k t773 _ _ t774 t785 t786 t789 _ ?side1 ?side2 A5.out).mono ?_
          (case side1 => repeat (first | exact (Kd.R_reads' HO776.out).2.2 | (with_reducible refine Kd.C_alloc ?_ _) | (with_reducible refine Kd.C_drewN ?_ _) | (with_reducible refine Kd.C_drew ?_)))
          (case side2 => exact (Kd.R_reads' HO776.out).2.1)
          rintro e w79 ⟨v787, v790, rfl, ho0, ho1, hb⟩
          refine ⟨_, rfl, ?_⟩
          have n0_ := Aside0.mk (Kd.R_elder' (by (with_reducible repeat (first | apply Kd.R_alloc | apply Kd.R_drewN | apply Kd.R_drew)); exact HO776.out) (Kd.R_base ho0) hb)
          have n1_ := Aside0.mk (Kd.R_elder' (by (with_reducible repeat (first | apply Kd.R_alloc | apply Kd.R_drewN | apply Kd.R_drew)); exact HO780.out) (Kd.R_base ho0) hb)
          have n2_ := Aside0.mk (Kd.S_mono (Kd.S_told (Kd.S_told (Kd.S_old (by (with_reducible repeat (first | apply Kd.S_alloc | apply Kd.S_drewN | apply Kd.S_drew)); exact HO783.out) hb) (Kd.R_base ho0)) (Kd.S_base ho1)) (fun _ h_ => h_.1))
          have n3_ := Aside0.mk (Kd.R_lower (Kd.R_new' (Kd.R_new' ho0 (Kd.R_lt (by (with_reducible repeat (first | apply Kd.R_alloc | apply Kd.R_drewN | apply Kd.R_drew)); exact HO776.out))) (Kd.R_lt (by (with_reducible repeat (first | apply Kd.R_alloc | apply Kd.R_drewN | apply Kd.R_drew)); exact HO780.out))) (below_size (by repeat (first | (with_reducible first | exact HB.out | apply below_alloc | apply pw_below_drewN | apply below_drew1 | refine below_set ?_ GE784.out) | exact HB.out))))
          have n4_ := Aside0.mk (Kd.S_lower (Kd.S_new' (Kd.S_new' (Kd.S_new' ho1 (Kd.R_lt (by (with_reducible repeat (first | apply Kd.R_alloc | apply Kd.R_drewN | apply Kd.R_drew)); exact HO776.out))) (Kd.R_lt (by (with_reducible repeat (first | apply Kd.R_alloc | apply Kd.R_drewN | apply Kd.R_drew)); exact HO780.out))) (Kd.S_lt (by (with_reducible repeat (first | apply Kd.S_alloc | apply Kd.S_drewN | apply Kd.S_drew)); exact HO783.out))) (below_size (by repeat (first | (with_reducible first | exact HB.out | apply below_alloc | apply pw_below_drewN | apply below_drew1 | refine below_set ?_ GE784.out) | exact HB.out))))
          have n5_ := Aside0.mk (blk_below (g := gb784) (o := .cells #[.int .i64 t777, .slice Ao75 t778.length co75, .slice Ao76 t781.length co76] 58 (0, 0)) (by (with_reducible repeat (first | refine blk_drewN ?_ _ | refine blk_drew ?_ | refine blk_alloc ?_ _)); exact BK784.out) hb)
          have n6_ := Aside0.mk (below_step (by repeat (first | (with_reducible first | exact HB.out | apply below_alloc | apply pw_below_drewN | apply below_drew1 | refine below_set ?_ GE784.out) | exact HB.out)) hb)
          clear HO776
          clear HO780
          clear HO783
          clear BK784
          clear HB
          have HO776 := n0_
          have HO780 := n1_
          have HO783 := n2_
          have HO788 := n3_
          have HO791 := n4_
          have BK784 := n5_
          have HB := n6_
          clear n0_ n1_ n2_ n3_ n4_ n5_ n6_
          (try clear hb)
          (try clear hb2)
          (try clear hk)
          (try clear hi)
          (try clear ho0)
          (try clear ho1)
          obtain ⟨Ao80, co80, eo80⟩ := Kd.R_slice HO788.out
          (first | subst eo80 | (injection eo80 with f1_ f2_ f3_; have f4_ := f1_.symm; have f5_ := f3_.symm; clear f1_ f2_ f3_; subst f4_; subst f5_))
          obtain ⟨Ao81, co81, eo81⟩ := Kd.S_slice HO791.out
          (first | subst eo81 | (injection eo81 with f1_ f2_ f3_; have f4_ := f1_.symm; have f5_ := f3_.symm; clear f1_ f2_ f3_; subst f4_; subst f5_))
          refine hK.out _ _ ⟨(blk_cell BK784.out 0).trans rfl, (blk_cell BK784.out 1).trans rfl, (blk_cell BK784.out 2).trans rfl⟩ (fun hHeld => ?_)
          clear hK K
          refine norm_ (a' := ?_) ?_ ?_
          rotate_left
          · show Act.put _ (some 20) _ = _
            simp only [Act.put, List.setIfInBounds_toArray, List.set_cons_zero, List.set_cons_succ, i64_w, i32_w]
            rfl
          refine one_ (i := 4) (N := some 21) #[true, true, true, true, true, false] rfl rfl (by kernel_rfl) (by decide) (fun K hK => ?_)
          refine goes_ Try.func58 (by kernel_rfl) rfl #[.agg #[.int .i64 t777, .slice Ao75 t778.length co75, .slice Ao76 t781.length co76], .agg #[.int .i64 t785, .slice Ao80 t786.length co80, .slice Ao81 t789.length co81]] (by rfl) rfl rfl (by (try simp only [List.map_toArray, List.map_cons, List.map_nil]); first | done | rfl | (simp only [List.length_drop, List.length_take]; rfl)) ?_
          with_reducible refine (laws_sameMind.calls k t777 _ _ t778 _ _ t781 t785 _ _ t786 _ _ t789 true _ ?side1 ?side2 ?side3 ?side4 ?side5 ?side6 ?side7 ?side8 A6.out).mono ?_
          (case side1 => repeat (first | exact (Kd.R_reads' HO780.out).2.2 | (with_reducible refine Kd.C_alloc ?_ _) | (with_reducible refine Kd.C_drewN ?_ _) | (with_reducible refine Kd.C_drew ?_)))
          (case side2 => exact (Kd.R_reads' HO780.out).2.1)
          (case side3 => repeat (first | exact (Kd.S_reads' HO783.out).2.2 | (with_reducible refine Kd.C_alloc ?_ _) | (with_reducible refine Kd.C_drewN ?_ _) | (with_reducible refine Kd.C_drew ?_)))
          (case side4 => exact (Kd.S_reads' HO783.out).2.1)
          (case side5 => repeat (first | exact (Kd.R_reads' HO788.out).2.2 | (with_reducible refine Kd.C_alloc ?_ _) | (with_reducible refine Kd.C_drewN ?_ _) | (with_reducible refine Kd.C_drew ?_)))
          (case side6 => exact (Kd.R_reads' HO788.out).2.1)
          (case side7 => repeat (first | exact (Kd.S_reads' HO791.out).2.2 | (with_reducible refine Kd.C_alloc ?_ _) | (with_reducible refine Kd.C_drewN ?_ _) | (with_reducible refine Kd.C_drew ?_)))
          (case side8 => exact (Kd.S_reads' HO791.out).2.1)
          rintro e w82 ⟨rfl, hb⟩
          refine ⟨_, rfl, ?_⟩
          have n0_ := Aside0.mk (Kd.R_below (by (with_reducible repeat (first | apply Kd.R_alloc | apply Kd.R_drewN | apply Kd.R_drew)); exact HO776.out) hb)
          have n1_ := Aside0.mk (Kd.R_below (by (with_reducible repeat (first | apply Kd.R_alloc | apply Kd.R_drewN | apply Kd.R_drew)); exact HO780.out) hb)
          have n2_ := Aside0.mk (Kd.S_below (by (with_reducible repeat (first | apply Kd.S_alloc | apply Kd.S_drewN | apply Kd.S_drew)); exact HO783.out) hb)
          have n3_ := Aside0.mk (Kd.R_below (by (with_reducible repeat (first | apply Kd.R_alloc | apply Kd.R_drewN | apply Kd.R_drew)); exact HO788.out) hb)
          have n4_ := Aside0.mk (Kd.S_below (by (with_reducible repeat (first | apply Kd.S_alloc | apply Kd.S_drewN | apply Kd.S_drew)); exact HO791.out) hb)
          have n5_ := Aside0.mk (blk_below (g := gb784) (o := .cells #[.int .i64 t777, .slice Ao75 t778.length co75, .slice Ao76 t781.length co76] 58 (0, 0)) (by (with_reducible repeat (first | refine blk_drewN ?_ _ | refine blk_drew ?_ | refine blk_alloc ?_ _)); exact BK784.out) hb)
          have n6_ := Aside0.mk (below_step (by repeat (first | (with_reducible first | exact HB.out | apply below_alloc | apply pw_below_drewN | apply below_drew1 | refine below_set ?_ GE784.out) | exact HB.out)) hb)
          clear HO776
          clear HO780
          clear HO783
          clear HO788
          clear HO791
          clear BK784
          clear HB
          have HO776 := n0_
          have HO780 := n1_
          have HO783 := n2_
          have HO788 := n3_
          have HO791 := n4_
          have BK784 := n5_
          have HB := n6_
          clear n0_ n1_ n2_ n3_ n4_ n5_ n6_
          (try clear hb)
          (try clear hb2)
          (try clear hk)
          (try clear hi)
          refine hK.out _ _ ⟨(blk_cell BK784.out 0).trans rfl, (blk_cell BK784.out 1).trans rfl, (blk_cell BK784.out 2).trans rfl⟩ (fun hHeld => ?_)
          clear hK K
          refine norm_ (a' := ?_) ?_ ?_
          rotate_left
          · show Act.put _ (some 21) _ = _
            simp only [Act.put, List.setIfInBounds_toArray, List.set_cons_zero, List.set_cons_succ, i64_w, i32_w]
            rfl
          refine pure_ (i := 5) (N := some 22) (v := ?_) (a' := ?_) #[true, true, true, true, true, true] rfl rfl (by kernel_rfl) (fun _ _ _ h => h) (Or.inl ⟨by rfl, ?_⟩) ?_ ?_
          rotate_left
          · intro w'
            go_simp
            with_reducible rfl
          rotate_left
          · simp only [Act.put, List.setIfInBounds_toArray, List.set_cons_zero, List.set_cons_succ, i64_w, i32_w]
            rfl
          refine done_ (by kernel_rfl) ?_
          try go_wp2_with (first | ((with_reducible refine gate_callee (f := 59) rfl ?_); refine goesL_ (some 25) rfl rfl Try.func59 (by kernel_rfl) rfl #[.int .i64 t773, .slice Ao71 t774.length co71] rfl (by (try simp only [List.map_toArray, List.map_cons, List.map_nil]); first | done | rfl | (simp only [List.length_drop, List.length_take]; rfl)) ?_; (with_reducible refine (spec_RankOk.calls k t773 _ _ t774 false _ ?side1 ?side2 A8.out).mono ?_); (case side1 => repeat (first | exact (Kd.R_reads' HO776.out).2.2 | (with_reducible refine Kd.C_alloc ?_ _) | (with_reducible refine Kd.C_drewN ?_ _) | (with_reducible refine Kd.C_drew ?_))); (case side2 => exact (Kd.R_reads' HO776.out).2.1); rintro e w83 ⟨rfl, hb⟩; refine ⟨_, rfl, ?_⟩; have n0_ := Aside0.mk (Kd.R_below (by (with_reducible repeat (first | apply Kd.R_alloc | apply Kd.R_drewN | apply Kd.R_drew)); exact HO776.out) hb); have n1_ := Aside0.mk (Kd.R_below (by (with_reducible repeat (first | apply Kd.R_alloc | apply Kd.R_drewN | apply Kd.R_drew)); exact HO780.out) hb); have n2_ := Aside0.mk (Kd.S_below (by (with_reducible repeat (first | apply Kd.S_alloc | apply Kd.S_drewN | apply Kd.S_drew)); exact HO783.out) hb); have n3_ := Aside0.mk (Kd.R_below (by (with_reducible repeat (first | apply Kd.R_alloc | apply Kd.R_drewN | apply Kd.R_drew)); exact HO788.out) hb); have n4_ := Aside0.mk (Kd.S_below (by (with_reducible repeat (first | apply Kd.S_alloc | apply Kd.S_drewN | apply Kd.S_drew)); exact HO791.out) hb); have n5_ := Aside0.mk (blk_below (g := gb784) (o := .cells #[.int .i64 t777, .slice Ao75 t778.length co75, .slice Ao76 t781.length co76] 58 (0, 0)) (by (with_reducible repeat (first | refine blk_drewN ?_ _ | refine blk_drew ?_ | refine blk_alloc ?_ _)); exact BK784.out) hb); have n6_ := Aside0.mk (below_step (by repeat (first | (with_reducible first | exact HB.out | apply below_alloc | apply pw_below_drewN | apply below_drew1 | refine below_set ?_ GE784.out) | exact HB.out)) hb); clear HO776; clear HO780; clear HO783; clear HO788; clear HO791; clear BK784; clear HB; have HO776 := n0_; have HO780 := n1_; have HO783 := n2_; have HO788 := n3_; have HO791 := n4_; have BK784 := n5_; have HB := n6_; clear n0_ n1_ n2_ n3_ n4_ n5_ n6_; (try clear hb); (try clear hb2); (try clear hk); (try clear hi); have hcz84_0 : w83.cell? ⟨gb784, 0, none⟩ = some (.int .i64 t777) := (blk_cell BK784.out 0).trans rfl; have hcz84_1 : w83.cell? ⟨gb784, 1, none⟩ = some (.slice Ao75 t778.length co75) := (blk_cell BK784.out 1).trans rfl; have hcz84_2 : w83.cell? ⟨gb784, 2, none⟩ = some (.slice Ao76 t781.length co76) := (blk_cell BK784.out 2).trans rfl; have hfz84_0 := blk_frozen BK784.out 0; have hfz84_1 := blk_frozen BK784.out 1; have hfz84_2 := blk_frozen BK784.out 2) | ((with_reducible refine gate_callee (f := 60) rfl ?_); refine goesL_ (some 28) rfl rfl Try.func60 (by kernel_rfl) rfl #[.agg #[.int .i64 t777, .slice Ao75 t778.length co75, .slice Ao76 t781.length co76]] rfl (by (try simp only [List.map_toArray, List.map_cons, List.map_nil]); first | done | rfl | (simp only [List.length_drop, List.length_take]; rfl)) ?_; (with_reducible refine (laws_noMind.calls k t777 _ _ t778 _ _ t781 true _ ?side1 ?side2 ?side3 ?side4 A67.out).mono ?_); (case side1 => repeat (first | exact (Kd.R_reads' HO780.out).2.2 | (with_reducible refine Kd.C_alloc ?_ _) | (with_reducible refine Kd.C_drewN ?_ _) | (with_reducible refine Kd.C_drew ?_))); (case side2 => exact (Kd.R_reads' HO780.out).2.1); (case side3 => repeat (first | exact (Kd.S_reads' HO783.out).2.2 | (with_reducible refine Kd.C_alloc ?_ _) | (with_reducible refine Kd.C_drewN ?_ _) | (with_reducible refine Kd.C_drew ?_))); (case side4 => exact (Kd.S_reads' HO783.out).2.1); rintro e w85 ⟨rfl, hb⟩; refine ⟨_, rfl, ?_⟩; have n0_ := Aside0.mk (Kd.R_below (by (with_reducible repeat (first | apply Kd.R_alloc | apply Kd.R_drewN | apply Kd.R_drew)); exact HO776.out) hb); have n1_ := Aside0.mk (Kd.R_below (by (with_reducible repeat (first | apply Kd.R_alloc | apply Kd.R_drewN | apply Kd.R_drew)); exact HO780.out) hb); have n2_ := Aside0.mk (Kd.S_below (by (with_reducible repeat (first | apply Kd.S_alloc | apply Kd.S_drewN | apply Kd.S_drew)); exact HO783.out) hb); have n3_ := Aside0.mk (Kd.R_below (by (with_reducible repeat (first | apply Kd.R_alloc | apply Kd.R_drewN | apply Kd.R_drew)); exact HO788.out) hb); have n4_ := Aside0.mk (Kd.S_below (by (with_reducible repeat (first | apply Kd.S_alloc | apply Kd.S_drewN | apply Kd.S_drew)); exact HO791.out) hb); have n5_ := Aside0.mk (blk_below (g := gb784) (o := .cells #[.int .i64 t777, .slice Ao75 t778.length co75, .slice Ao76 t781.length co76] 58 (0, 0)) (by (with_reducible repeat (first | refine blk_drewN ?_ _ | refine blk_drew ?_ | refine blk_alloc ?_ _)); exact BK784.out) hb); have n6_ := Aside0.mk (below_step (by repeat (first | (with_reducible first | exact HB.out | apply below_alloc | apply pw_below_drewN | apply below_drew1 | refine below_set ?_ GE784.out) | exact HB.out)) hb); clear HO776; clear HO780; clear HO783; clear HO788; clear HO791; clear BK784; clear HB; have HO776 := n0_; have HO780 := n1_; have HO783 := n2_; have HO788 := n3_; have HO791 := n4_; have BK784 := n5_; have HB := n6_; clear n0_ n1_ n2_ n3_ n4_ n5_ n6_; (try clear hb); (try clear hb2); (try clear hk); (try clear hi)) | (go_at_call 38; (with_reducible refine (laws_alive.calls  t797 _ A69.out).mono ?_); rintro e w' ⟨rfl, ⟨nd, rfl⟩⟩))
          go_ret
          exact ⟨by first | rfl | (simp [errW_none, errW_some] <;> rfl) | (simp [*, errW_none, errW_some] <;> rfl), by repeat (first | (with_reducible first | exact HB.out | apply below_alloc | apply pw_below_drewN | apply below_drew1 | refine below_set ?_ GE784.out) | exact HB.out)⟩
        · replace c68 := Bool.eq_false_iff.mpr c68
          subst c68
          have H1 : (some false) = some r := by rw [if_neg (show ¬ (false = true) by decide)] at H; exact H
          clear H
          have H := H1
          clear H1
          obtain rfl := Option.some.inj H
          go_enter Try.func13, Try.ntmps13
          try go_wp2_with (first | ((with_reducible refine gate_callee (f := 57) rfl ?_); refine goesL_ (some 11) rfl rfl Try.func57 (by kernel_rfl) rfl #[.slice A0 l0.length c0] rfl (by (try simp only [List.map_toArray, List.map_cons, List.map_nil]); first | done | rfl | (simp only [List.length_drop, List.length_take]; rfl)) ?_; (with_reducible refine (spec_DrawMindNew.calls k _ _ l0 t773 t774 _ ?side1 ?side2 A3.out).mono ?_); (case side1 => repeat (first | exact HR0.out | (with_reducible refine Kd.C_alloc ?_ _) | (with_reducible refine Kd.C_drewN ?_ _) | (with_reducible refine Kd.C_drew ?_))); (case side2 => exact HC0.out); rintro e w86 ⟨v775, rfl, ho0, hb⟩; refine ⟨_, rfl, ?_⟩; have n0_ := Aside0.mk (Kd.R_lower ho0 (below_size (by repeat (first | (with_reducible first | exact HB.out | apply below_alloc | apply pw_below_drewN | apply below_drew1) | exact HB.out)))); have n1_ := Aside0.mk (below_step (by repeat (first | (with_reducible first | exact HB.out | apply below_alloc | apply pw_below_drewN | apply below_drew1) | exact HB.out)) hb); clear HB; have HO776 := n0_; have HB := n1_; clear n0_ n1_; (try clear hb); (try clear hb2); (try clear hk); (try clear hi); (try clear ho0); obtain ⟨Ao87, co87, eo87⟩ := Kd.R_slice HO776.out; subst eo87) | ((with_reducible refine gate_callee (f := 44) rfl ?_); refine goesL_ (some 16) rfl rfl Try.func44 (by kernel_rfl) rfl #[.int .i64 t773, .slice Ao87 t774.length co87] rfl (by (try simp only [List.map_toArray, List.map_cons, List.map_nil]); first | done | rfl | (simp only [List.length_drop, List.length_take]; rfl)) ?_; (with_reducible refine (impl_MindNew.calls k t773 _ _ t774 t777 t778 t781 _ ?side1 ?side2 A4.out).mono ?_); (case side1 => repeat (first | exact (Kd.R_reads' HO776.out).2.2 | (with_reducible refine Kd.C_alloc ?_ _) | (with_reducible refine Kd.C_drewN ?_ _) | (with_reducible refine Kd.C_drew ?_))); (case side2 => exact (Kd.R_reads' HO776.out).2.1); rintro e w88 ⟨v779, v782, rfl, ho0, ho1, hb⟩; refine ⟨_, rfl, ?_⟩; have n0_ := Aside0.mk (Kd.R_elder' (by (with_reducible repeat (first | apply Kd.R_alloc | apply Kd.R_drewN | apply Kd.R_drew)); exact HO776.out) (Kd.R_base ho0) hb); have n1_ := Aside0.mk (Kd.R_lower (Kd.R_new' ho0 (Kd.R_lt (by (with_reducible repeat (first | apply Kd.R_alloc | apply Kd.R_drewN | apply Kd.R_drew)); exact HO776.out))) (below_size (by repeat (first | (with_reducible first | exact HB.out | apply below_alloc | apply pw_below_drewN | apply below_drew1) | exact HB.out)))); have n2_ := Aside0.mk (Kd.S_lower (Kd.S_new' ho1 (Kd.R_lt (by (with_reducible repeat (first | apply Kd.R_alloc | apply Kd.R_drewN | apply Kd.R_drew)); exact HO776.out))) (below_size (by repeat (first | (with_reducible first | exact HB.out | apply below_alloc | apply pw_below_drewN | apply below_drew1) | exact HB.out)))); have n3_ := Aside0.mk (below_step (by repeat (first | (with_reducible first | exact HB.out | apply below_alloc | apply pw_below_drewN | apply below_drew1) | exact HB.out)) hb); clear HO776; clear HB; have HO776 := n0_; have HO780 := n1_; have HO783 := n2_; have HB := n3_; clear n0_ n1_ n2_ n3_; (try clear hb); (try clear hb2); (try clear hk); (try clear hi); (try clear ho0); (try clear ho1)) | ((with_reducible refine gate_dst (N := 5) rfl ?_); (try (refine gate_guard (by rfl) ?_; dsimp only)); refine box_event ?hg (N := 5) ?hd (cs := #[.int .i64 0, .slice none 0 0, .slice none 0 0]) (t := 58) ?hr ?_; (case hd => rfl); (case hg => rfl); (case hr => first | (go_simp; done) | (go_simp; rfl)); intro gb784 hg w89 hbox hb; have n0_ := Aside0.mk (Kd.R_below (by (with_reducible repeat (first | apply Kd.R_alloc | apply Kd.R_drewN | apply Kd.R_drew)); exact HO776.out) hb); have n1_ := Aside0.mk (Kd.R_below (by (with_reducible repeat (first | apply Kd.R_alloc | apply Kd.R_drewN | apply Kd.R_drew)); exact HO780.out) hb); have n2_ := Aside0.mk (Kd.S_below (by (with_reducible repeat (first | apply Kd.S_alloc | apply Kd.S_drewN | apply Kd.S_drew)); exact HO783.out) hb); have n3_ := Aside0.mk (below_step (by repeat (first | (with_reducible first | exact HB.out | apply below_alloc | apply pw_below_drewN | apply below_drew1) | exact HB.out)) hb); have n4_ := Aside0.mk (hbox); have n5_ := Aside0.mk ((by rw [hg]; exact (below_size (by repeat (first | (with_reducible first | exact HB.out | apply below_alloc | apply pw_below_drewN | apply below_drew1) | exact HB.out))) : w.heap.size ≤ gb784)); have n6_ := Aside0.mk ((by rw [hg]; exact (below_size (by repeat (first | (with_reducible first | exact HB.out | apply below_alloc | apply pw_below_drewN | apply below_drew1) | exact HB.out))) : w.heap.size ≤ gb784)); clear HO776; clear HO780; clear HO783; clear HB; have HO776 := n0_; have HO780 := n1_; have HO783 := n2_; have HB := n3_; have BK784 := n4_; have GW784 := n5_; have GE784 := n6_; clear n0_ n1_ n2_ n3_ n4_ n5_ n6_; clear hb hbox hg; have hcz90_0 : w89.cell? ⟨gb784, 0, none⟩ = some (.int .i64 0) := (blk_cell BK784.out 0).trans rfl; have hcz90_1 : w89.cell? ⟨gb784, 1, none⟩ = some (.slice none 0 0) := (blk_cell BK784.out 1).trans rfl; have hcz90_2 : w89.cell? ⟨gb784, 2, none⟩ = some (.slice none 0 0) := (blk_cell BK784.out 2).trans rfl; have hfz90_0 := blk_frozen BK784.out 0; have hfz90_1 := blk_frozen BK784.out 1; have hfz90_2 := blk_frozen BK784.out 2; obtain ⟨Ao91, co91, eo91⟩ := Kd.R_slice HO780.out; subst eo91; obtain ⟨Ao92, co92, eo92⟩ := Kd.S_slice HO783.out; subst eo92))
          have n0_ : Aside0 (Kd.R (Kd.int .i64) 3 (((w89.setCell ⟨gb784, 0, none⟩ (.int .i64 t777)).setCell ⟨gb784, 1, none⟩ (.slice Ao91 t778.length co91)).setCell ⟨gb784, 2, none⟩ (.slice Ao92 t781.length co92)) w.heap.size (fun k_ => some k_ ≠ (.slice Ao91 t778.length co91 : Value).ownBlock) (.slice Ao87 t774.length co87) t774) := ⟨by (with_reducible repeat (first | apply Kd.R_alloc | apply Kd.R_drewN | apply Kd.R_drew)); exact Kd.R_mono (Kd.R_far (p := ⟨gb784, 2, none⟩) (Kd.R_far (p := ⟨gb784, 1, none⟩) (Kd.R_far (p := ⟨gb784, 0, none⟩) (Kd.R_types HO776.out BK784.out (by decide)) (fun _ hk => hk.2) (.int .i64 t777)) (fun _ hk => hk.2) (.slice Ao91 t778.length co91)) (fun _ hk => hk.2) (.slice Ao92 t781.length co92)) (fun _ hk => hk.1.2)⟩
          have n1_ : Aside0 (Kd.R (Kd.int .i64) 3 (((w89.setCell ⟨gb784, 0, none⟩ (.int .i64 t777)).setCell ⟨gb784, 1, none⟩ (.slice Ao91 t778.length co91)).setCell ⟨gb784, 2, none⟩ (.slice Ao92 t781.length co92)) w.heap.size (fun k_ => some k_ ≠ (.slice Ao87 t774.length co87 : Value).ownBlock) (.slice Ao91 t778.length co91) t778) := ⟨by (with_reducible repeat (first | apply Kd.R_alloc | apply Kd.R_drewN | apply Kd.R_drew)); exact Kd.R_mono (Kd.R_far (p := ⟨gb784, 2, none⟩) (Kd.R_far (p := ⟨gb784, 1, none⟩) (Kd.R_far (p := ⟨gb784, 0, none⟩) (Kd.R_types HO780.out BK784.out (by decide)) (fun _ hk => hk.2) (.int .i64 t777)) (fun _ hk => hk.2) (.slice Ao91 t778.length co91)) (fun _ hk => hk.2) (.slice Ao92 t781.length co92)) (fun _ hk => hk.1.2)⟩
          have n2_ : Aside0 (Kd.S (Kd.slice 3 (Kd.int .i64)) 55 (((w89.setCell ⟨gb784, 0, none⟩ (.int .i64 t777)).setCell ⟨gb784, 1, none⟩ (.slice Ao91 t778.length co91)).setCell ⟨gb784, 2, none⟩ (.slice Ao92 t781.length co92)) w.heap.size (fun k_ => some k_ ≠ (.slice Ao87 t774.length co87 : Value).ownBlock ∧ some k_ ≠ (.slice Ao91 t778.length co91 : Value).ownBlock) (.slice Ao92 t781.length co92) t781) := ⟨by (with_reducible repeat (first | apply Kd.S_alloc | apply Kd.S_drewN | apply Kd.S_drew)); exact Kd.S_mono (Kd.S_far (p := ⟨gb784, 2, none⟩) (Kd.S_far (p := ⟨gb784, 1, none⟩) (Kd.S_far (p := ⟨gb784, 0, none⟩) (Kd.S_types HO783.out BK784.out (by decide)) (fun _ hk => hk.2) (.int .i64 t777)) (fun _ hk => hk.2) (.slice Ao91 t778.length co91)) (fun _ hk => hk.2) (.slice Ao92 t781.length co92)) (fun _ hk => ⟨hk.1.2, hk.1.1⟩)⟩
          have n3_ : Aside0 ((((w89.setCell ⟨gb784, 0, none⟩ (.int .i64 t777)).setCell ⟨gb784, 1, none⟩ (.slice Ao91 t778.length co91)).setCell ⟨gb784, 2, none⟩ (.slice Ao92 t781.length co92)).heap[gb784]? = some (.cells #[.int .i64 t777, .slice Ao91 t778.length co91, .slice Ao92 t781.length co92] 58 (0, 0))) := ⟨by (with_reducible repeat (first | refine blk_drewN ?_ _ | refine blk_drew ?_ | refine blk_alloc ?_ _)); refine blk_put (cs := #[.int .i64 t777, .slice Ao91 t778.length co91, .slice none 0 0]) ?_ 2 _ rfl; (with_reducible repeat (first | refine blk_drewN ?_ _ | refine blk_drew ?_ | refine blk_alloc ?_ _)); refine blk_put (cs := #[.int .i64 t777, .slice none 0 0, .slice none 0 0]) ?_ 1 _ rfl; (with_reducible repeat (first | refine blk_drewN ?_ _ | refine blk_drew ?_ | refine blk_alloc ?_ _)); refine blk_put (cs := #[.int .i64 0, .slice none 0 0, .slice none 0 0]) ?_ 0 _ rfl; (with_reducible repeat (first | refine blk_drewN ?_ _ | refine blk_drew ?_ | refine blk_alloc ?_ _)); exact BK784.out⟩
          have n4_ : Aside0 (Below w.heap.size w (((w89.setCell ⟨gb784, 0, none⟩ (.int .i64 t777)).setCell ⟨gb784, 1, none⟩ (.slice Ao91 t778.length co91)).setCell ⟨gb784, 2, none⟩ (.slice Ao92 t781.length co92))) := ⟨by repeat (first | (with_reducible first | exact HB.out | apply below_alloc | apply pw_below_drewN | apply below_drew1 | refine below_set ?_ GE784.out) | exact HB.out)⟩
          (try clear HO776)
          (try clear HO780)
          (try clear HO783)
          (try clear BK784)
          (try clear HB)
          generalize (((w89.setCell ⟨gb784, 0, none⟩ (.int .i64 t777)).setCell ⟨gb784, 1, none⟩ (.slice Ao91 t778.length co91)).setCell ⟨gb784, 2, none⟩ (.slice Ao92 t781.length co92)) = w93 at n0_ n1_ n2_ n3_ n4_ ⊢
          have HO776 := n0_
          have HO780 := n1_
          have HO783 := n2_
          have BK784 := n3_
          have HB := n4_
          clear n0_ n1_ n2_ n3_ n4_
          have n0_ := Aside0.mk (Kd.R_drew HO776.out)
          have n1_ := Aside0.mk (Kd.R_drew HO780.out)
          have n2_ := Aside0.mk (Kd.S_drew HO783.out)
          have n3_ := Aside0.mk (blk_drew BK784.out)
          have n4_ := Aside0.mk (below_drew1 HB.out)
          clear HO776
          clear HO780
          clear HO783
          clear BK784
          clear HB
          have HO776 := n0_
          have HO780 := n1_
          have HO783 := n2_
          have BK784 := n3_
          have HB := n4_
          clear n0_ n1_ n2_ n3_ n4_
          refine start_ (n := 6) (S := fun w' => w'.cell? ⟨gb784, 0, none⟩ = some (.int .i64 t777) ∧ w'.cell? ⟨gb784, 1, none⟩ = some (.slice Ao91 t778.length co91) ∧ w'.cell? ⟨gb784, 2, none⟩ = some (.slice Ao92 t781.length co92)) (ds := []) #[false, false, false, false, false, false] (by kernel_rfl) rfl rfl ⟨(blk_cell BK784.out 0).trans rfl, (blk_cell BK784.out 1).trans rfl, (blk_cell BK784.out 2).trans rfl⟩ (fun hHeld => ?_)
          generalize w93.drew = w94 at HO776 HO780 HO783 BK784 HB hHeld ⊢
          refine pure_ (i := 1) (N := some 18) (v := ?_) (a' := ?_) #[false, true, false, false, false, false] rfl rfl (by kernel_rfl) (fun _ _ _ h => h) (Or.inl ⟨by rfl, ?_⟩) ?_ ?_
          rotate_left
          · intro w'
            go_simp
            with_reducible rfl
          rotate_left
          · simp only [Act.put, List.setIfInBounds_toArray, List.set_cons_zero, List.set_cons_succ, i64_w, i32_w]
            rfl
          refine pure_ (i := 2) (N := some 19) (v := ?_) (a' := ?_) #[false, true, true, false, false, false] rfl rfl (by kernel_rfl) (fun _ _ _ h => h) (Or.inl ⟨by rfl, ?_⟩) ?_ ?_
          rotate_left
          · intro w'
            go_simp
            with_reducible rfl
          rotate_left
          · simp only [Act.put, List.setIfInBounds_toArray, List.set_cons_zero, List.set_cons_succ, i64_w, i32_w]
            rfl
          refine take_ (i := 0) (N := some 17) (v := ?_) (a' := ?_) #[true, true, true, false, false, false] rfl rfl (by kernel_rfl) (fun _ _ _ h => h) (Or.inl ⟨by rfl, ?_⟩) hHeld ?_ ?_
          rotate_left
          · rintro w' ⟨s0, s1, s2⟩
            go_simp
            with_reducible rfl
          rotate_left
          · simp only [Act.put, List.setIfInBounds_toArray, List.set_cons_zero, List.set_cons_succ, i64_w, i32_w]
            rfl
          refine one_ (i := 3) (N := some 20) #[true, true, true, true, false, false] rfl rfl (by kernel_rfl) (by decide) (fun K hK => ?_)
          refine goes_ Try.func42 (by kernel_rfl) rfl #[.int .i64 t773, .slice Ao87 t774.length co87] (by rfl) rfl rfl (by (try simp only [List.map_toArray, List.map_cons, List.map_nil]); first | done | rfl | (simp only [List.length_drop, List.length_take]; rfl)) ?_
          with_reducible refine (spec_MindNew.calls k t773 _ _ t774 t785 t786 t789 _ ?side1 ?side2 A5.out).mono ?_
          (case side1 => repeat (first | exact (Kd.R_reads' HO776.out).2.2 | (with_reducible refine Kd.C_alloc ?_ _) | (with_reducible refine Kd.C_drewN ?_ _) | (with_reducible refine Kd.C_drew ?_)))
          (case side2 => exact (Kd.R_reads' HO776.out).2.1)
          rintro e w95 ⟨v787, v790, rfl, ho0, ho1, hb⟩
          refine ⟨_, rfl, ?_⟩
          have n0_ := Aside0.mk (Kd.R_elder' (by (with_reducible repeat (first | apply Kd.R_alloc | apply Kd.R_drewN | apply Kd.R_drew)); exact HO776.out) (Kd.R_base ho0) hb)
          have n1_ := Aside0.mk (Kd.R_elder' (by (with_reducible repeat (first | apply Kd.R_alloc | apply Kd.R_drewN | apply Kd.R_drew)); exact HO780.out) (Kd.R_base ho0) hb)
          have n2_ := Aside0.mk (Kd.S_mono (Kd.S_told (Kd.S_told (Kd.S_old (by (with_reducible repeat (first | apply Kd.S_alloc | apply Kd.S_drewN | apply Kd.S_drew)); exact HO783.out) hb) (Kd.R_base ho0)) (Kd.S_base ho1)) (fun _ h_ => h_.1))
          have n3_ := Aside0.mk (Kd.R_lower (Kd.R_new' (Kd.R_new' ho0 (Kd.R_lt (by (with_reducible repeat (first | apply Kd.R_alloc | apply Kd.R_drewN | apply Kd.R_drew)); exact HO776.out))) (Kd.R_lt (by (with_reducible repeat (first | apply Kd.R_alloc | apply Kd.R_drewN | apply Kd.R_drew)); exact HO780.out))) (below_size (by repeat (first | (with_reducible first | exact HB.out | apply below_alloc | apply pw_below_drewN | apply below_drew1 | refine below_set ?_ GE784.out) | exact HB.out))))
          have n4_ := Aside0.mk (Kd.S_lower (Kd.S_new' (Kd.S_new' (Kd.S_new' ho1 (Kd.R_lt (by (with_reducible repeat (first | apply Kd.R_alloc | apply Kd.R_drewN | apply Kd.R_drew)); exact HO776.out))) (Kd.R_lt (by (with_reducible repeat (first | apply Kd.R_alloc | apply Kd.R_drewN | apply Kd.R_drew)); exact HO780.out))) (Kd.S_lt (by (with_reducible repeat (first | apply Kd.S_alloc | apply Kd.S_drewN | apply Kd.S_drew)); exact HO783.out))) (below_size (by repeat (first | (with_reducible first | exact HB.out | apply below_alloc | apply pw_below_drewN | apply below_drew1 | refine below_set ?_ GE784.out) | exact HB.out))))
          have n5_ := Aside0.mk (blk_below (g := gb784) (o := .cells #[.int .i64 t777, .slice Ao91 t778.length co91, .slice Ao92 t781.length co92] 58 (0, 0)) (by (with_reducible repeat (first | refine blk_drewN ?_ _ | refine blk_drew ?_ | refine blk_alloc ?_ _)); exact BK784.out) hb)
          have n6_ := Aside0.mk (below_step (by repeat (first | (with_reducible first | exact HB.out | apply below_alloc | apply pw_below_drewN | apply below_drew1 | refine below_set ?_ GE784.out) | exact HB.out)) hb)
          clear HO776
          clear HO780
          clear HO783
          clear BK784
          clear HB
          have HO776 := n0_
          have HO780 := n1_
          have HO783 := n2_
          have HO788 := n3_
          have HO791 := n4_
          have BK784 := n5_
          have HB := n6_
          clear n0_ n1_ n2_ n3_ n4_ n5_ n6_
          (try clear hb)
          (try clear hb2)
          (try clear hk)
          (try clear hi)
          (try clear ho0)
          (try clear ho1)
          obtain ⟨Ao96, co96, eo96⟩ := Kd.R_slice HO788.out
          (first | subst eo96 | (injection eo96 with f1_ f2_ f3_; have f4_ := f1_.symm; have f5_ := f3_.symm; clear f1_ f2_ f3_; subst f4_; subst f5_))
          obtain ⟨Ao97, co97, eo97⟩ := Kd.S_slice HO791.out
          (first | subst eo97 | (injection eo97 with f1_ f2_ f3_; have f4_ := f1_.symm; have f5_ := f3_.symm; clear f1_ f2_ f3_; subst f4_; subst f5_))
          refine hK.out _ _ ⟨(blk_cell BK784.out 0).trans rfl, (blk_cell BK784.out 1).trans rfl, (blk_cell BK784.out 2).trans rfl⟩ (fun hHeld => ?_)
          clear hK K
          refine norm_ (a' := ?_) ?_ ?_
          rotate_left
          · show Act.put _ (some 20) _ = _
            simp only [Act.put, List.setIfInBounds_toArray, List.set_cons_zero, List.set_cons_succ, i64_w, i32_w]
            rfl
          refine one_ (i := 4) (N := some 21) #[true, true, true, true, true, false] rfl rfl (by kernel_rfl) (by decide) (fun K hK => ?_)
          refine goes_ Try.func58 (by kernel_rfl) rfl #[.agg #[.int .i64 t777, .slice Ao91 t778.length co91, .slice Ao92 t781.length co92], .agg #[.int .i64 t785, .slice Ao96 t786.length co96, .slice Ao97 t789.length co97]] (by rfl) rfl rfl (by (try simp only [List.map_toArray, List.map_cons, List.map_nil]); first | done | rfl | (simp only [List.length_drop, List.length_take]; rfl)) ?_
          with_reducible refine (laws_sameMind.calls k t777 _ _ t778 _ _ t781 t785 _ _ t786 _ _ t789 true _ ?side1 ?side2 ?side3 ?side4 ?side5 ?side6 ?side7 ?side8 A6.out).mono ?_
          (case side1 => repeat (first | exact (Kd.R_reads' HO780.out).2.2 | (with_reducible refine Kd.C_alloc ?_ _) | (with_reducible refine Kd.C_drewN ?_ _) | (with_reducible refine Kd.C_drew ?_)))
          (case side2 => exact (Kd.R_reads' HO780.out).2.1)
          (case side3 => repeat (first | exact (Kd.S_reads' HO783.out).2.2 | (with_reducible refine Kd.C_alloc ?_ _) | (with_reducible refine Kd.C_drewN ?_ _) | (with_reducible refine Kd.C_drew ?_)))
          (case side4 => exact (Kd.S_reads' HO783.out).2.1)
          (case side5 => repeat (first | exact (Kd.R_reads' HO788.out).2.2 | (with_reducible refine Kd.C_alloc ?_ _) | (with_reducible refine Kd.C_drewN ?_ _) | (with_reducible refine Kd.C_drew ?_)))
          (case side6 => exact (Kd.R_reads' HO788.out).2.1)
          (case side7 => repeat (first | exact (Kd.S_reads' HO791.out).2.2 | (with_reducible refine Kd.C_alloc ?_ _) | (with_reducible refine Kd.C_drewN ?_ _) | (with_reducible refine Kd.C_drew ?_)))
          (case side8 => exact (Kd.S_reads' HO791.out).2.1)
          rintro e w98 ⟨rfl, hb⟩
          refine ⟨_, rfl, ?_⟩
          have n0_ := Aside0.mk (Kd.R_below (by (with_reducible repeat (first | apply Kd.R_alloc | apply Kd.R_drewN | apply Kd.R_drew)); exact HO776.out) hb)
          have n1_ := Aside0.mk (Kd.R_below (by (with_reducible repeat (first | apply Kd.R_alloc | apply Kd.R_drewN | apply Kd.R_drew)); exact HO780.out) hb)
          have n2_ := Aside0.mk (Kd.S_below (by (with_reducible repeat (first | apply Kd.S_alloc | apply Kd.S_drewN | apply Kd.S_drew)); exact HO783.out) hb)
          have n3_ := Aside0.mk (Kd.R_below (by (with_reducible repeat (first | apply Kd.R_alloc | apply Kd.R_drewN | apply Kd.R_drew)); exact HO788.out) hb)
          have n4_ := Aside0.mk (Kd.S_below (by (with_reducible repeat (first | apply Kd.S_alloc | apply Kd.S_drewN | apply Kd.S_drew)); exact HO791.out) hb)
          have n5_ := Aside0.mk (blk_below (g := gb784) (o := .cells #[.int .i64 t777, .slice Ao91 t778.length co91, .slice Ao92 t781.length co92] 58 (0, 0)) (by (with_reducible repeat (first | refine blk_drewN ?_ _ | refine blk_drew ?_ | refine blk_alloc ?_ _)); exact BK784.out) hb)
          have n6_ := Aside0.mk (below_step (by repeat (first | (with_reducible first | exact HB.out | apply below_alloc | apply pw_below_drewN | apply below_drew1 | refine below_set ?_ GE784.out) | exact HB.out)) hb)
          clear HO776
          clear HO780
          clear HO783
          clear HO788
          clear HO791
          clear BK784
          clear HB
          have HO776 := n0_
          have HO780 := n1_
          have HO783 := n2_
          have HO788 := n3_
          have HO791 := n4_
          have BK784 := n5_
          have HB := n6_
          clear n0_ n1_ n2_ n3_ n4_ n5_ n6_
          (try clear hb)
          (try clear hb2)
          (try clear hk)
          (try clear hi)
          refine hK.out _ _ ⟨(blk_cell BK784.out 0).trans rfl, (blk_cell BK784.out 1).trans rfl, (blk_cell BK784.out 2).trans rfl⟩ (fun hHeld => ?_)
          clear hK K
          refine norm_ (a' := ?_) ?_ ?_
          rotate_left
          · show Act.put _ (some 21) _ = _
            simp only [Act.put, List.setIfInBounds_toArray, List.set_cons_zero, List.set_cons_succ, i64_w, i32_w]
            rfl
          refine pure_ (i := 5) (N := some 22) (v := ?_) (a' := ?_) #[true, true, true, true, true, true] rfl rfl (by kernel_rfl) (fun _ _ _ h => h) (Or.inl ⟨by rfl, ?_⟩) ?_ ?_
          rotate_left
          · intro w'
            go_simp
            with_reducible rfl
          rotate_left
          · simp only [Act.put, List.setIfInBounds_toArray, List.set_cons_zero, List.set_cons_succ, i64_w, i32_w]
            rfl
          refine done_ (by kernel_rfl) ?_
          try go_wp2_with (first | ((with_reducible refine gate_callee (f := 59) rfl ?_); refine goesL_ (some 25) rfl rfl Try.func59 (by kernel_rfl) rfl #[.int .i64 t773, .slice Ao87 t774.length co87] rfl (by (try simp only [List.map_toArray, List.map_cons, List.map_nil]); first | done | rfl | (simp only [List.length_drop, List.length_take]; rfl)) ?_; (with_reducible refine (spec_RankOk.calls k t773 _ _ t774 false _ ?side1 ?side2 A8.out).mono ?_); (case side1 => repeat (first | exact (Kd.R_reads' HO776.out).2.2 | (with_reducible refine Kd.C_alloc ?_ _) | (with_reducible refine Kd.C_drewN ?_ _) | (with_reducible refine Kd.C_drew ?_))); (case side2 => exact (Kd.R_reads' HO776.out).2.1); rintro e w99 ⟨rfl, hb⟩; refine ⟨_, rfl, ?_⟩; have n0_ := Aside0.mk (Kd.R_below (by (with_reducible repeat (first | apply Kd.R_alloc | apply Kd.R_drewN | apply Kd.R_drew)); exact HO776.out) hb); have n1_ := Aside0.mk (Kd.R_below (by (with_reducible repeat (first | apply Kd.R_alloc | apply Kd.R_drewN | apply Kd.R_drew)); exact HO780.out) hb); have n2_ := Aside0.mk (Kd.S_below (by (with_reducible repeat (first | apply Kd.S_alloc | apply Kd.S_drewN | apply Kd.S_drew)); exact HO783.out) hb); have n3_ := Aside0.mk (Kd.R_below (by (with_reducible repeat (first | apply Kd.R_alloc | apply Kd.R_drewN | apply Kd.R_drew)); exact HO788.out) hb); have n4_ := Aside0.mk (Kd.S_below (by (with_reducible repeat (first | apply Kd.S_alloc | apply Kd.S_drewN | apply Kd.S_drew)); exact HO791.out) hb); have n5_ := Aside0.mk (blk_below (g := gb784) (o := .cells #[.int .i64 t777, .slice Ao91 t778.length co91, .slice Ao92 t781.length co92] 58 (0, 0)) (by (with_reducible repeat (first | refine blk_drewN ?_ _ | refine blk_drew ?_ | refine blk_alloc ?_ _)); exact BK784.out) hb); have n6_ := Aside0.mk (below_step (by repeat (first | (with_reducible first | exact HB.out | apply below_alloc | apply pw_below_drewN | apply below_drew1 | refine below_set ?_ GE784.out) | exact HB.out)) hb); clear HO776; clear HO780; clear HO783; clear HO788; clear HO791; clear BK784; clear HB; have HO776 := n0_; have HO780 := n1_; have HO783 := n2_; have HO788 := n3_; have HO791 := n4_; have BK784 := n5_; have HB := n6_; clear n0_ n1_ n2_ n3_ n4_ n5_ n6_; (try clear hb); (try clear hb2); (try clear hk); (try clear hi); have hcz100_0 : w99.cell? ⟨gb784, 0, none⟩ = some (.int .i64 t777) := (blk_cell BK784.out 0).trans rfl; have hcz100_1 : w99.cell? ⟨gb784, 1, none⟩ = some (.slice Ao91 t778.length co91) := (blk_cell BK784.out 1).trans rfl; have hcz100_2 : w99.cell? ⟨gb784, 2, none⟩ = some (.slice Ao92 t781.length co92) := (blk_cell BK784.out 2).trans rfl; have hfz100_0 := blk_frozen BK784.out 0; have hfz100_1 := blk_frozen BK784.out 1; have hfz100_2 := blk_frozen BK784.out 2) | ((with_reducible refine gate_callee (f := 60) rfl ?_); refine goesL_ (some 28) rfl rfl Try.func60 (by kernel_rfl) rfl #[.agg #[.int .i64 t777, .slice Ao91 t778.length co91, .slice Ao92 t781.length co92]] rfl (by (try simp only [List.map_toArray, List.map_cons, List.map_nil]); first | done | rfl | (simp only [List.length_drop, List.length_take]; rfl)) ?_; (with_reducible refine (laws_noMind.calls k t777 _ _ t778 _ _ t781 false _ ?side1 ?side2 ?side3 ?side4 A67.out).mono ?_); (case side1 => repeat (first | exact (Kd.R_reads' HO780.out).2.2 | (with_reducible refine Kd.C_alloc ?_ _) | (with_reducible refine Kd.C_drewN ?_ _) | (with_reducible refine Kd.C_drew ?_))); (case side2 => exact (Kd.R_reads' HO780.out).2.1); (case side3 => repeat (first | exact (Kd.S_reads' HO783.out).2.2 | (with_reducible refine Kd.C_alloc ?_ _) | (with_reducible refine Kd.C_drewN ?_ _) | (with_reducible refine Kd.C_drew ?_))); (case side4 => exact (Kd.S_reads' HO783.out).2.1); rintro e w101 ⟨rfl, hb⟩; refine ⟨_, rfl, ?_⟩; have n0_ := Aside0.mk (Kd.R_below (by (with_reducible repeat (first | apply Kd.R_alloc | apply Kd.R_drewN | apply Kd.R_drew)); exact HO776.out) hb); have n1_ := Aside0.mk (Kd.R_below (by (with_reducible repeat (first | apply Kd.R_alloc | apply Kd.R_drewN | apply Kd.R_drew)); exact HO780.out) hb); have n2_ := Aside0.mk (Kd.S_below (by (with_reducible repeat (first | apply Kd.S_alloc | apply Kd.S_drewN | apply Kd.S_drew)); exact HO783.out) hb); have n3_ := Aside0.mk (Kd.R_below (by (with_reducible repeat (first | apply Kd.R_alloc | apply Kd.R_drewN | apply Kd.R_drew)); exact HO788.out) hb); have n4_ := Aside0.mk (Kd.S_below (by (with_reducible repeat (first | apply Kd.S_alloc | apply Kd.S_drewN | apply Kd.S_drew)); exact HO791.out) hb); have n5_ := Aside0.mk (blk_below (g := gb784) (o := .cells #[.int .i64 t777, .slice Ao91 t778.length co91, .slice Ao92 t781.length co92] 58 (0, 0)) (by (with_reducible repeat (first | refine blk_drewN ?_ _ | refine blk_drew ?_ | refine blk_alloc ?_ _)); exact BK784.out) hb); have n6_ := Aside0.mk (below_step (by repeat (first | (with_reducible first | exact HB.out | apply below_alloc | apply pw_below_drewN | apply below_drew1 | refine below_set ?_ GE784.out) | exact HB.out)) hb); clear HO776; clear HO780; clear HO783; clear HO788; clear HO791; clear BK784; clear HB; have HO776 := n0_; have HO780 := n1_; have HO783 := n2_; have HO788 := n3_; have HO791 := n4_; have BK784 := n5_; have HB := n6_; clear n0_ n1_ n2_ n3_ n4_ n5_ n6_; (try clear hb); (try clear hb2); (try clear hk); (try clear hi)))
          go_ret
          exact ⟨by first | rfl | (simp [errW_none, errW_some] <;> rfl) | (simp [*, errW_none, errW_some] <;> rfl), by repeat (first | (with_reducible first | exact HB.out | apply below_alloc | apply pw_below_drewN | apply below_drew1 | refine below_set ?_ GE784.out) | exact HB.out)⟩
    · replace c7 := Bool.eq_false_iff.mpr c7
      subst c7
      have H1 : (some false) = some r := by rw [if_neg (show ¬ (false = true) by decide)] at H; exact H
      clear H
      have H := H1
      clear H1
      obtain rfl := Option.some.inj H
      go_enter Try.func13, Try.ntmps13
      try go_wp2_with (first | ((with_reducible refine gate_callee (f := 57) rfl ?_); refine goesL_ (some 11) rfl rfl Try.func57 (by kernel_rfl) rfl #[.slice A0 l0.length c0] rfl (by (try simp only [List.map_toArray, List.map_cons, List.map_nil]); first | done | rfl | (simp only [List.length_drop, List.length_take]; rfl)) ?_; (with_reducible refine (spec_DrawMindNew.calls k _ _ l0 t773 t774 _ ?side1 ?side2 A3.out).mono ?_); (case side1 => repeat (first | exact HR0.out | (with_reducible refine Kd.C_alloc ?_ _) | (with_reducible refine Kd.C_drewN ?_ _) | (with_reducible refine Kd.C_drew ?_))); (case side2 => exact HC0.out); rintro e w102 ⟨v775, rfl, ho0, hb⟩; refine ⟨_, rfl, ?_⟩; have n0_ := Aside0.mk (Kd.R_lower ho0 (below_size (by repeat (first | (with_reducible first | exact HB.out | apply below_alloc | apply pw_below_drewN | apply below_drew1) | exact HB.out)))); have n1_ := Aside0.mk (below_step (by repeat (first | (with_reducible first | exact HB.out | apply below_alloc | apply pw_below_drewN | apply below_drew1) | exact HB.out)) hb); clear HB; have HO776 := n0_; have HB := n1_; clear n0_ n1_; (try clear hb); (try clear hb2); (try clear hk); (try clear hi); (try clear ho0); obtain ⟨Ao103, co103, eo103⟩ := Kd.R_slice HO776.out; subst eo103) | ((with_reducible refine gate_callee (f := 44) rfl ?_); refine goesL_ (some 16) rfl rfl Try.func44 (by kernel_rfl) rfl #[.int .i64 t773, .slice Ao103 t774.length co103] rfl (by (try simp only [List.map_toArray, List.map_cons, List.map_nil]); first | done | rfl | (simp only [List.length_drop, List.length_take]; rfl)) ?_; (with_reducible refine (impl_MindNew.calls k t773 _ _ t774 t777 t778 t781 _ ?side1 ?side2 A4.out).mono ?_); (case side1 => repeat (first | exact (Kd.R_reads' HO776.out).2.2 | (with_reducible refine Kd.C_alloc ?_ _) | (with_reducible refine Kd.C_drewN ?_ _) | (with_reducible refine Kd.C_drew ?_))); (case side2 => exact (Kd.R_reads' HO776.out).2.1); rintro e w104 ⟨v779, v782, rfl, ho0, ho1, hb⟩; refine ⟨_, rfl, ?_⟩; have n0_ := Aside0.mk (Kd.R_elder' (by (with_reducible repeat (first | apply Kd.R_alloc | apply Kd.R_drewN | apply Kd.R_drew)); exact HO776.out) (Kd.R_base ho0) hb); have n1_ := Aside0.mk (Kd.R_lower (Kd.R_new' ho0 (Kd.R_lt (by (with_reducible repeat (first | apply Kd.R_alloc | apply Kd.R_drewN | apply Kd.R_drew)); exact HO776.out))) (below_size (by repeat (first | (with_reducible first | exact HB.out | apply below_alloc | apply pw_below_drewN | apply below_drew1) | exact HB.out)))); have n2_ := Aside0.mk (Kd.S_lower (Kd.S_new' ho1 (Kd.R_lt (by (with_reducible repeat (first | apply Kd.R_alloc | apply Kd.R_drewN | apply Kd.R_drew)); exact HO776.out))) (below_size (by repeat (first | (with_reducible first | exact HB.out | apply below_alloc | apply pw_below_drewN | apply below_drew1) | exact HB.out)))); have n3_ := Aside0.mk (below_step (by repeat (first | (with_reducible first | exact HB.out | apply below_alloc | apply pw_below_drewN | apply below_drew1) | exact HB.out)) hb); clear HO776; clear HB; have HO776 := n0_; have HO780 := n1_; have HO783 := n2_; have HB := n3_; clear n0_ n1_ n2_ n3_; (try clear hb); (try clear hb2); (try clear hk); (try clear hi); (try clear ho0); (try clear ho1)) | ((with_reducible refine gate_dst (N := 5) rfl ?_); (try (refine gate_guard (by rfl) ?_; dsimp only)); refine box_event ?hg (N := 5) ?hd (cs := #[.int .i64 0, .slice none 0 0, .slice none 0 0]) (t := 58) ?hr ?_; (case hd => rfl); (case hg => rfl); (case hr => first | (go_simp; done) | (go_simp; rfl)); intro gb784 hg w105 hbox hb; have n0_ := Aside0.mk (Kd.R_below (by (with_reducible repeat (first | apply Kd.R_alloc | apply Kd.R_drewN | apply Kd.R_drew)); exact HO776.out) hb); have n1_ := Aside0.mk (Kd.R_below (by (with_reducible repeat (first | apply Kd.R_alloc | apply Kd.R_drewN | apply Kd.R_drew)); exact HO780.out) hb); have n2_ := Aside0.mk (Kd.S_below (by (with_reducible repeat (first | apply Kd.S_alloc | apply Kd.S_drewN | apply Kd.S_drew)); exact HO783.out) hb); have n3_ := Aside0.mk (below_step (by repeat (first | (with_reducible first | exact HB.out | apply below_alloc | apply pw_below_drewN | apply below_drew1) | exact HB.out)) hb); have n4_ := Aside0.mk (hbox); have n5_ := Aside0.mk ((by rw [hg]; exact (below_size (by repeat (first | (with_reducible first | exact HB.out | apply below_alloc | apply pw_below_drewN | apply below_drew1) | exact HB.out))) : w.heap.size ≤ gb784)); have n6_ := Aside0.mk ((by rw [hg]; exact (below_size (by repeat (first | (with_reducible first | exact HB.out | apply below_alloc | apply pw_below_drewN | apply below_drew1) | exact HB.out))) : w.heap.size ≤ gb784)); clear HO776; clear HO780; clear HO783; clear HB; have HO776 := n0_; have HO780 := n1_; have HO783 := n2_; have HB := n3_; have BK784 := n4_; have GW784 := n5_; have GE784 := n6_; clear n0_ n1_ n2_ n3_ n4_ n5_ n6_; clear hb hbox hg; have hcz106_0 : w105.cell? ⟨gb784, 0, none⟩ = some (.int .i64 0) := (blk_cell BK784.out 0).trans rfl; have hcz106_1 : w105.cell? ⟨gb784, 1, none⟩ = some (.slice none 0 0) := (blk_cell BK784.out 1).trans rfl; have hcz106_2 : w105.cell? ⟨gb784, 2, none⟩ = some (.slice none 0 0) := (blk_cell BK784.out 2).trans rfl; have hfz106_0 := blk_frozen BK784.out 0; have hfz106_1 := blk_frozen BK784.out 1; have hfz106_2 := blk_frozen BK784.out 2; obtain ⟨Ao107, co107, eo107⟩ := Kd.R_slice HO780.out; subst eo107; obtain ⟨Ao108, co108, eo108⟩ := Kd.S_slice HO783.out; subst eo108))
      have n0_ : Aside0 (Kd.R (Kd.int .i64) 3 (((w105.setCell ⟨gb784, 0, none⟩ (.int .i64 t777)).setCell ⟨gb784, 1, none⟩ (.slice Ao107 t778.length co107)).setCell ⟨gb784, 2, none⟩ (.slice Ao108 t781.length co108)) w.heap.size (fun k_ => some k_ ≠ (.slice Ao107 t778.length co107 : Value).ownBlock) (.slice Ao103 t774.length co103) t774) := ⟨by (with_reducible repeat (first | apply Kd.R_alloc | apply Kd.R_drewN | apply Kd.R_drew)); exact Kd.R_mono (Kd.R_far (p := ⟨gb784, 2, none⟩) (Kd.R_far (p := ⟨gb784, 1, none⟩) (Kd.R_far (p := ⟨gb784, 0, none⟩) (Kd.R_types HO776.out BK784.out (by decide)) (fun _ hk => hk.2) (.int .i64 t777)) (fun _ hk => hk.2) (.slice Ao107 t778.length co107)) (fun _ hk => hk.2) (.slice Ao108 t781.length co108)) (fun _ hk => hk.1.2)⟩
      have n1_ : Aside0 (Kd.R (Kd.int .i64) 3 (((w105.setCell ⟨gb784, 0, none⟩ (.int .i64 t777)).setCell ⟨gb784, 1, none⟩ (.slice Ao107 t778.length co107)).setCell ⟨gb784, 2, none⟩ (.slice Ao108 t781.length co108)) w.heap.size (fun k_ => some k_ ≠ (.slice Ao103 t774.length co103 : Value).ownBlock) (.slice Ao107 t778.length co107) t778) := ⟨by (with_reducible repeat (first | apply Kd.R_alloc | apply Kd.R_drewN | apply Kd.R_drew)); exact Kd.R_mono (Kd.R_far (p := ⟨gb784, 2, none⟩) (Kd.R_far (p := ⟨gb784, 1, none⟩) (Kd.R_far (p := ⟨gb784, 0, none⟩) (Kd.R_types HO780.out BK784.out (by decide)) (fun _ hk => hk.2) (.int .i64 t777)) (fun _ hk => hk.2) (.slice Ao107 t778.length co107)) (fun _ hk => hk.2) (.slice Ao108 t781.length co108)) (fun _ hk => hk.1.2)⟩
      have n2_ : Aside0 (Kd.S (Kd.slice 3 (Kd.int .i64)) 55 (((w105.setCell ⟨gb784, 0, none⟩ (.int .i64 t777)).setCell ⟨gb784, 1, none⟩ (.slice Ao107 t778.length co107)).setCell ⟨gb784, 2, none⟩ (.slice Ao108 t781.length co108)) w.heap.size (fun k_ => some k_ ≠ (.slice Ao103 t774.length co103 : Value).ownBlock ∧ some k_ ≠ (.slice Ao107 t778.length co107 : Value).ownBlock) (.slice Ao108 t781.length co108) t781) := ⟨by (with_reducible repeat (first | apply Kd.S_alloc | apply Kd.S_drewN | apply Kd.S_drew)); exact Kd.S_mono (Kd.S_far (p := ⟨gb784, 2, none⟩) (Kd.S_far (p := ⟨gb784, 1, none⟩) (Kd.S_far (p := ⟨gb784, 0, none⟩) (Kd.S_types HO783.out BK784.out (by decide)) (fun _ hk => hk.2) (.int .i64 t777)) (fun _ hk => hk.2) (.slice Ao107 t778.length co107)) (fun _ hk => hk.2) (.slice Ao108 t781.length co108)) (fun _ hk => ⟨hk.1.2, hk.1.1⟩)⟩
      have n3_ : Aside0 ((((w105.setCell ⟨gb784, 0, none⟩ (.int .i64 t777)).setCell ⟨gb784, 1, none⟩ (.slice Ao107 t778.length co107)).setCell ⟨gb784, 2, none⟩ (.slice Ao108 t781.length co108)).heap[gb784]? = some (.cells #[.int .i64 t777, .slice Ao107 t778.length co107, .slice Ao108 t781.length co108] 58 (0, 0))) := ⟨by (with_reducible repeat (first | refine blk_drewN ?_ _ | refine blk_drew ?_ | refine blk_alloc ?_ _)); refine blk_put (cs := #[.int .i64 t777, .slice Ao107 t778.length co107, .slice none 0 0]) ?_ 2 _ rfl; (with_reducible repeat (first | refine blk_drewN ?_ _ | refine blk_drew ?_ | refine blk_alloc ?_ _)); refine blk_put (cs := #[.int .i64 t777, .slice none 0 0, .slice none 0 0]) ?_ 1 _ rfl; (with_reducible repeat (first | refine blk_drewN ?_ _ | refine blk_drew ?_ | refine blk_alloc ?_ _)); refine blk_put (cs := #[.int .i64 0, .slice none 0 0, .slice none 0 0]) ?_ 0 _ rfl; (with_reducible repeat (first | refine blk_drewN ?_ _ | refine blk_drew ?_ | refine blk_alloc ?_ _)); exact BK784.out⟩
      have n4_ : Aside0 (Below w.heap.size w (((w105.setCell ⟨gb784, 0, none⟩ (.int .i64 t777)).setCell ⟨gb784, 1, none⟩ (.slice Ao107 t778.length co107)).setCell ⟨gb784, 2, none⟩ (.slice Ao108 t781.length co108))) := ⟨by repeat (first | (with_reducible first | exact HB.out | apply below_alloc | apply pw_below_drewN | apply below_drew1 | refine below_set ?_ GE784.out) | exact HB.out)⟩
      (try clear HO776)
      (try clear HO780)
      (try clear HO783)
      (try clear BK784)
      (try clear HB)
      generalize (((w105.setCell ⟨gb784, 0, none⟩ (.int .i64 t777)).setCell ⟨gb784, 1, none⟩ (.slice Ao107 t778.length co107)).setCell ⟨gb784, 2, none⟩ (.slice Ao108 t781.length co108)) = w109 at n0_ n1_ n2_ n3_ n4_ ⊢
      have HO776 := n0_
      have HO780 := n1_
      have HO783 := n2_
      have BK784 := n3_
      have HB := n4_
      clear n0_ n1_ n2_ n3_ n4_
      have n0_ := Aside0.mk (Kd.R_drew HO776.out)
      have n1_ := Aside0.mk (Kd.R_drew HO780.out)
      have n2_ := Aside0.mk (Kd.S_drew HO783.out)
      have n3_ := Aside0.mk (blk_drew BK784.out)
      have n4_ := Aside0.mk (below_drew1 HB.out)
      clear HO776
      clear HO780
      clear HO783
      clear BK784
      clear HB
      have HO776 := n0_
      have HO780 := n1_
      have HO783 := n2_
      have BK784 := n3_
      have HB := n4_
      clear n0_ n1_ n2_ n3_ n4_
      refine start_ (n := 6) (S := fun w' => w'.cell? ⟨gb784, 0, none⟩ = some (.int .i64 t777) ∧ w'.cell? ⟨gb784, 1, none⟩ = some (.slice Ao107 t778.length co107) ∧ w'.cell? ⟨gb784, 2, none⟩ = some (.slice Ao108 t781.length co108)) (ds := []) #[false, false, false, false, false, false] (by kernel_rfl) rfl rfl ⟨(blk_cell BK784.out 0).trans rfl, (blk_cell BK784.out 1).trans rfl, (blk_cell BK784.out 2).trans rfl⟩ (fun hHeld => ?_)
      generalize w109.drew = w110 at HO776 HO780 HO783 BK784 HB hHeld ⊢
      refine pure_ (i := 1) (N := some 18) (v := ?_) (a' := ?_) #[false, true, false, false, false, false] rfl rfl (by kernel_rfl) (fun _ _ _ h => h) (Or.inl ⟨by rfl, ?_⟩) ?_ ?_
      rotate_left
      · intro w'
        go_simp
        with_reducible rfl
      rotate_left
      · simp only [Act.put, List.setIfInBounds_toArray, List.set_cons_zero, List.set_cons_succ, i64_w, i32_w]
        rfl
      refine pure_ (i := 2) (N := some 19) (v := ?_) (a' := ?_) #[false, true, true, false, false, false] rfl rfl (by kernel_rfl) (fun _ _ _ h => h) (Or.inl ⟨by rfl, ?_⟩) ?_ ?_
      rotate_left
      · intro w'
        go_simp
        with_reducible rfl
      rotate_left
      · simp only [Act.put, List.setIfInBounds_toArray, List.set_cons_zero, List.set_cons_succ, i64_w, i32_w]
        rfl
      refine take_ (i := 0) (N := some 17) (v := ?_) (a' := ?_) #[true, true, true, false, false, false] rfl rfl (by kernel_rfl) (fun _ _ _ h => h) (Or.inl ⟨by rfl, ?_⟩) hHeld ?_ ?_
      rotate_left
      · rintro w' ⟨s0, s1, s2⟩
        go_simp
        with_reducible rfl
      rotate_left
      · simp only [Act.put, List.setIfInBounds_toArray, List.set_cons_zero, List.set_cons_succ, i64_w, i32_w]
        rfl
      refine one_ (i := 3) (N := some 20) #[true, true, true, true, false, false] rfl rfl (by kernel_rfl) (by decide) (fun K hK => ?_)
      refine goes_ Try.func42 (by kernel_rfl) rfl #[.int .i64 t773, .slice Ao103 t774.length co103] (by rfl) rfl rfl (by (try simp only [List.map_toArray, List.map_cons, List.map_nil]); first | done | rfl | (simp only [List.length_drop, List.length_take]; rfl)) ?_
      with_reducible refine (spec_MindNew.calls k t773 _ _ t774 t785 t786 t789 _ ?side1 ?side2 A5.out).mono ?_
      (case side1 => repeat (first | exact (Kd.R_reads' HO776.out).2.2 | (with_reducible refine Kd.C_alloc ?_ _) | (with_reducible refine Kd.C_drewN ?_ _) | (with_reducible refine Kd.C_drew ?_)))
      (case side2 => exact (Kd.R_reads' HO776.out).2.1)
      rintro e w111 ⟨v787, v790, rfl, ho0, ho1, hb⟩
      refine ⟨_, rfl, ?_⟩
      have n0_ := Aside0.mk (Kd.R_elder' (by (with_reducible repeat (first | apply Kd.R_alloc | apply Kd.R_drewN | apply Kd.R_drew)); exact HO776.out) (Kd.R_base ho0) hb)
      have n1_ := Aside0.mk (Kd.R_elder' (by (with_reducible repeat (first | apply Kd.R_alloc | apply Kd.R_drewN | apply Kd.R_drew)); exact HO780.out) (Kd.R_base ho0) hb)
      have n2_ := Aside0.mk (Kd.S_mono (Kd.S_told (Kd.S_told (Kd.S_old (by (with_reducible repeat (first | apply Kd.S_alloc | apply Kd.S_drewN | apply Kd.S_drew)); exact HO783.out) hb) (Kd.R_base ho0)) (Kd.S_base ho1)) (fun _ h_ => h_.1))
      have n3_ := Aside0.mk (Kd.R_lower (Kd.R_new' (Kd.R_new' ho0 (Kd.R_lt (by (with_reducible repeat (first | apply Kd.R_alloc | apply Kd.R_drewN | apply Kd.R_drew)); exact HO776.out))) (Kd.R_lt (by (with_reducible repeat (first | apply Kd.R_alloc | apply Kd.R_drewN | apply Kd.R_drew)); exact HO780.out))) (below_size (by repeat (first | (with_reducible first | exact HB.out | apply below_alloc | apply pw_below_drewN | apply below_drew1 | refine below_set ?_ GE784.out) | exact HB.out))))
      have n4_ := Aside0.mk (Kd.S_lower (Kd.S_new' (Kd.S_new' (Kd.S_new' ho1 (Kd.R_lt (by (with_reducible repeat (first | apply Kd.R_alloc | apply Kd.R_drewN | apply Kd.R_drew)); exact HO776.out))) (Kd.R_lt (by (with_reducible repeat (first | apply Kd.R_alloc | apply Kd.R_drewN | apply Kd.R_drew)); exact HO780.out))) (Kd.S_lt (by (with_reducible repeat (first | apply Kd.S_alloc | apply Kd.S_drewN | apply Kd.S_drew)); exact HO783.out))) (below_size (by repeat (first | (with_reducible first | exact HB.out | apply below_alloc | apply pw_below_drewN | apply below_drew1 | refine below_set ?_ GE784.out) | exact HB.out))))
      have n5_ := Aside0.mk (blk_below (g := gb784) (o := .cells #[.int .i64 t777, .slice Ao107 t778.length co107, .slice Ao108 t781.length co108] 58 (0, 0)) (by (with_reducible repeat (first | refine blk_drewN ?_ _ | refine blk_drew ?_ | refine blk_alloc ?_ _)); exact BK784.out) hb)
      have n6_ := Aside0.mk (below_step (by repeat (first | (with_reducible first | exact HB.out | apply below_alloc | apply pw_below_drewN | apply below_drew1 | refine below_set ?_ GE784.out) | exact HB.out)) hb)
      clear HO776
      clear HO780
      clear HO783
      clear BK784
      clear HB
      have HO776 := n0_
      have HO780 := n1_
      have HO783 := n2_
      have HO788 := n3_
      have HO791 := n4_
      have BK784 := n5_
      have HB := n6_
      clear n0_ n1_ n2_ n3_ n4_ n5_ n6_
      (try clear hb)
      (try clear hb2)
      (try clear hk)
      (try clear hi)
      (try clear ho0)
      (try clear ho1)
      obtain ⟨Ao112, co112, eo112⟩ := Kd.R_slice HO788.out
      (first | subst eo112 | (injection eo112 with f1_ f2_ f3_; have f4_ := f1_.symm; have f5_ := f3_.symm; clear f1_ f2_ f3_; subst f4_; subst f5_))
      obtain ⟨Ao113, co113, eo113⟩ := Kd.S_slice HO791.out
      (first | subst eo113 | (injection eo113 with f1_ f2_ f3_; have f4_ := f1_.symm; have f5_ := f3_.symm; clear f1_ f2_ f3_; subst f4_; subst f5_))
      refine hK.out _ _ ⟨(blk_cell BK784.out 0).trans rfl, (blk_cell BK784.out 1).trans rfl, (blk_cell BK784.out 2).trans rfl⟩ (fun hHeld => ?_)
      clear hK K
      refine norm_ (a' := ?_) ?_ ?_
      rotate_left
      · show Act.put _ (some 20) _ = _
        simp only [Act.put, List.setIfInBounds_toArray, List.set_cons_zero, List.set_cons_succ, i64_w, i32_w]
        rfl
      refine one_ (i := 4) (N := some 21) #[true, true, true, true, true, false] rfl rfl (by kernel_rfl) (by decide) (fun K hK => ?_)
      refine goes_ Try.func58 (by kernel_rfl) rfl #[.agg #[.int .i64 t777, .slice Ao107 t778.length co107, .slice Ao108 t781.length co108], .agg #[.int .i64 t785, .slice Ao112 t786.length co112, .slice Ao113 t789.length co113]] (by rfl) rfl rfl (by (try simp only [List.map_toArray, List.map_cons, List.map_nil]); first | done | rfl | (simp only [List.length_drop, List.length_take]; rfl)) ?_
      with_reducible refine (laws_sameMind.calls k t777 _ _ t778 _ _ t781 t785 _ _ t786 _ _ t789 false _ ?side1 ?side2 ?side3 ?side4 ?side5 ?side6 ?side7 ?side8 A6.out).mono ?_
      (case side1 => repeat (first | exact (Kd.R_reads' HO780.out).2.2 | (with_reducible refine Kd.C_alloc ?_ _) | (with_reducible refine Kd.C_drewN ?_ _) | (with_reducible refine Kd.C_drew ?_)))
      (case side2 => exact (Kd.R_reads' HO780.out).2.1)
      (case side3 => repeat (first | exact (Kd.S_reads' HO783.out).2.2 | (with_reducible refine Kd.C_alloc ?_ _) | (with_reducible refine Kd.C_drewN ?_ _) | (with_reducible refine Kd.C_drew ?_)))
      (case side4 => exact (Kd.S_reads' HO783.out).2.1)
      (case side5 => repeat (first | exact (Kd.R_reads' HO788.out).2.2 | (with_reducible refine Kd.C_alloc ?_ _) | (with_reducible refine Kd.C_drewN ?_ _) | (with_reducible refine Kd.C_drew ?_)))
      (case side6 => exact (Kd.R_reads' HO788.out).2.1)
      (case side7 => repeat (first | exact (Kd.S_reads' HO791.out).2.2 | (with_reducible refine Kd.C_alloc ?_ _) | (with_reducible refine Kd.C_drewN ?_ _) | (with_reducible refine Kd.C_drew ?_)))
      (case side8 => exact (Kd.S_reads' HO791.out).2.1)
      rintro e w114 ⟨rfl, hb⟩
      refine ⟨_, rfl, ?_⟩
      have n0_ := Aside0.mk (Kd.R_below (by (with_reducible repeat (first | apply Kd.R_alloc | apply Kd.R_drewN | apply Kd.R_drew)); exact HO776.out) hb)
      have n1_ := Aside0.mk (Kd.R_below (by (with_reducible repeat (first | apply Kd.R_alloc | apply Kd.R_drewN | apply Kd.R_drew)); exact HO780.out) hb)
      have n2_ := Aside0.mk (Kd.S_below (by (with_reducible repeat (first | apply Kd.S_alloc | apply Kd.S_drewN | apply Kd.S_drew)); exact HO783.out) hb)
      have n3_ := Aside0.mk (Kd.R_below (by (with_reducible repeat (first | apply Kd.R_alloc | apply Kd.R_drewN | apply Kd.R_drew)); exact HO788.out) hb)
      have n4_ := Aside0.mk (Kd.S_below (by (with_reducible repeat (first | apply Kd.S_alloc | apply Kd.S_drewN | apply Kd.S_drew)); exact HO791.out) hb)
      have n5_ := Aside0.mk (blk_below (g := gb784) (o := .cells #[.int .i64 t777, .slice Ao107 t778.length co107, .slice Ao108 t781.length co108] 58 (0, 0)) (by (with_reducible repeat (first | refine blk_drewN ?_ _ | refine blk_drew ?_ | refine blk_alloc ?_ _)); exact BK784.out) hb)
      have n6_ := Aside0.mk (below_step (by repeat (first | (with_reducible first | exact HB.out | apply below_alloc | apply pw_below_drewN | apply below_drew1 | refine below_set ?_ GE784.out) | exact HB.out)) hb)
      clear HO776
      clear HO780
      clear HO783
      clear HO788
      clear HO791
      clear BK784
      clear HB
      have HO776 := n0_
      have HO780 := n1_
      have HO783 := n2_
      have HO788 := n3_
      have HO791 := n4_
      have BK784 := n5_
      have HB := n6_
      clear n0_ n1_ n2_ n3_ n4_ n5_ n6_
      (try clear hb)
      (try clear hb2)
      (try clear hk)
      (try clear hi)
      refine hK.out _ _ ⟨(blk_cell BK784.out 0).trans rfl, (blk_cell BK784.out 1).trans rfl, (blk_cell BK784.out 2).trans rfl⟩ (fun hHeld => ?_)
      clear hK K
      refine norm_ (a' := ?_) ?_ ?_
      rotate_left
      · show Act.put _ (some 21) _ = _
        simp only [Act.put, List.setIfInBounds_toArray, List.set_cons_zero, List.set_cons_succ, i64_w, i32_w]
        rfl
      refine pure_ (i := 5) (N := some 22) (v := ?_) (a' := ?_) #[true, true, true, true, true, true] rfl rfl (by kernel_rfl) (fun _ _ _ h => h) (Or.inl ⟨by rfl, ?_⟩) ?_ ?_
      rotate_left
      · intro w'
        go_simp
        with_reducible rfl
      rotate_left
      · simp only [Act.put, List.setIfInBounds_toArray, List.set_cons_zero, List.set_cons_succ, i64_w, i32_w]
        rfl
      refine done_ (by kernel_rfl) ?_
      try go_wp2
      go_ret
      exact ⟨by first | rfl | (simp [errW_none, errW_some] <;> rfl) | (simp [*, errW_none, errW_some] <;> rfl), by repeat (first | (with_reducible first | exact HB.out | apply below_alloc | apply pw_below_drewN | apply below_drew1 | refine below_set ?_ GE784.out) | exact HB.out)⟩

/-- THE ONE PURE STATEMENT of laws_FnMindNew: yours. -/
def laws_FnMindNew.Pure : Prop := ∀ (l0 : List Int), l0.length ≤ maxLen → l0.length * 1 ≤ 140737488351232 → (∀ x ∈ l0, (Lit.int .u8 x).wf = true) → ∃ k, laws_FnMindNew.f k l0 = some true
theorem laws_FnMindNew.walk (P : laws_FnMindNew.Pure) (a0 : Option Addr) (len0 cap0 : Nat) (z0 : List Int) (w : World) (w0 : (a0 = none ∧ len0 = 0 ∧ cap0 = 0 ∧ z0 = []) ∨ ∃ x, a0 = some x ∧ len0 ≤ cap0 ∧ cap0 ≤ maxLen ∧ z0.length = cap0 ∧ (∀ i, i < z0.length → w.cell? (x.add i) = some (.int .u8 (z0.getD i 0))) ∧ ∀ n ∈ z0, (Lit.int .u8 n).wf = true) (y0 : len0 * 1 ≤ 140737488351232) :
    Calls Try.prog 13 #[.slice a0 len0 cap0] w fun e w' => e = .returned (.bool true) ∧ Below w.heap.size w w' := by
  obtain ⟨l0, rfl, hr0, hm0, hw0, hc0⟩ := ReadsInt.ofRowC w0
  obtain ⟨k, h⟩ := P l0 hm0 y0 hw0
  refine (laws_FnMindNew.calls k _ _ l0 true w (Kd.C_of_reads (d := (0 : Int)) (h1 := fun _ => rfl) hr0) hc0 h).mono ?_
  rintro e w' ⟨rfl, hd⟩
  exact ⟨rfl, hd⟩

end Go.Proofs.Ytihgpkohglcijaa.P
