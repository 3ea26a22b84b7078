-- Written by a program of this session (wip/hook.py), which runs the kit's printer; Lean checks it.
import Derived.Test.YtihgpkohglcijaaPx0
import Derived.Test.YtihgpkohglcijaaPx4
import Derived.Test.YtihgpkohglcijaaPx6
import Derived.Test.YtihgpkohglcijaaPx7
namespace Go.Proofs.Ytihgpkohglcijaa.P
open Go.RowKit Go.Proofs.YtihgpkohglcijaaW.PrintWords Go.Proofs.YtihgpkohglcijaaW.PrintLast Go.Proofs.YtihgpkohglcijaaW.PrintMore
attribute [local go_sem] max2_int min2_int max_two min_two max_three min_three max_four min_four   -- for this text's walks alone
set_option linter.unusedVariables false
set_option linter.unusedSimpArgs false

abbrev Mk8_0 : Array Bool := #[false, false, false, false, false, false, false, false, false]
abbrev Mk8_1 : Array Bool := #[true, false, false, false, false, false, false, false, false]
abbrev Mk8_2 : Array Bool := #[true, false, false, true, false, false, false, false, false]
abbrev Mk8_3 : Array Bool := #[true, true, false, true, false, false, false, false, false]
abbrev Mk8_4 : Array Bool := #[true, true, true, true, true, false, false, false, false]
abbrev Mk8_5 : Array Bool := #[true, true, true, true, true, false, false, true, false]
abbrev Mk8_6 : Array Bool := #[true, true, true, true, true, true, false, false, false]
abbrev Mk8_7 : Array Bool := #[true, true, true, true, true, true, false, true, false]
abbrev Mk8_8 : Array Bool := #[true, true, true, true, true, true, true, false, false]
abbrev Mk8_9 : Array Bool := #[true, true, true, true, true, true, true, true, false]
abbrev Mk8_10 : Array Bool := #[true, true, true, true, true, true, true, true, true]
/-! ### impl_holdsIn: function 112 (by hand) -/
def impl_holdsIn.f (k : Nat) (a0 : Int) (a1 : ByteArray) : Option (Int × Bool) := (impl_sentenceReader_sentence.f k a0 a1 0).bind fun c => if c.2.1 = true then (if c.2.2.2.2 = (a1.size : Int) then some (c.1, true) else some (-1, false)) else some (-1, false)
theorem impl_holdsIn.mono : ∀ a0 a1 k, LeO (impl_holdsIn.f k a0 a1) (impl_holdsIn.f (k + 1) a0 a1) := by
 intro a0 a1 k
 unfold impl_holdsIn.f
 exact LeO.bind (impl_sentenceReader_sentence.mono _ _ _ _) (fun _ => LeO.refl _)
set_option maxHeartbeats 4000000 in
set_option maxRecDepth 100000 in
theorem impl_holdsIn.calls (k : Nat) (a0 : Int) (a1 : ByteArray) (r1 : Int) (r2 : Bool) (w : World) (h : impl_holdsIn.f k a0 a1 = some (r1, r2)) :
  Calls Try.prog 112 #[.int .i64 a0, .string a1] w fun e w' => e = .returned (.tuple #[.int .i64 r1, .bool r2]) ∧ Below w.heap.size w w' := by
 have HBW := Asd.mk (Below.refl w.heap.size w)
 unfold impl_holdsIn.f at h
 have hq_ := Option.bind_eq_some_iff.mp h; clear h; obtain ⟨⟨c1, c2, c3, c4, c5⟩, hc, h⟩ := hq_
 have HC := Asd.mk (fun W g hI hB => impl_sentenceReader_sentence.calls k g a0 a1 0 c1 c2 c3 c4 c5 w W hI hB hc)
 have HH := Asd.mk h
 clear h hc
 have hu := Try.underlying130
 go_enter Try.func112, Try.ntmps112
 go_wp2_with (first | ((with_reducible refine gate_dst (N := 12) rfl ?_); refine bxE ?hg (N := 12) ?hd (cs := #[.int .i64 a0, .string a1, .int .i64 0]) (t := 130) ?hr ?_; (case hd => rfl); (case hg => rfl); (case hr => first | (go_simp; done) | (go_simp; rfl)); intro gb hg w1 hbox hb; have n1_ := bW HBW hb; have n2_ := Asd.mk (hbox); have n3_ := bG HBW hg; clear HBW; have HBW := n1_; have BK := n2_; have GW := n3_; clear n1_ n2_ n3_; clear hb hbox hg) | fail)
 refine (HC.out _ gb ⟨kS BK, GW.out⟩ (wZ HBW)).mono ?_
 rintro e w3 ⟨rfl, hI3, hB3, hK3⟩
 have hcz := cellS130_2 hI3.1
 have HB3 := Asd.mk hB3
 clear hI3 hB3 hK3 HBW BK GW HC
 obtain ⟨h⟩ := HH
 cases c2 with
 | false =>
  simp (config := { decide := true }) only [if_true, if_false] at h
  obtain ⟨rfl, rfl⟩ : -1 = r1 ∧ false = r2 := by simpa using h
  clear h
  go_wp2
  go_ret2
  exact ⟨rfl, HB3.out⟩
 | true =>
  simp (config := { decide := true }) only [if_true] at h
  by_cases he : c5 = (a1.size : Int)
  ·rw [if_pos he] at h
   obtain ⟨rfl, rfl⟩ : c1 = r1 ∧ true = r2 := by simpa using h
   have heb : (c5 != (a1.size : Int)) = false := by simpa using he
   clear h
   go_wp2
   go_ret2
   exact ⟨rfl, HB3.out⟩
  ·rw [if_neg he] at h
   obtain ⟨rfl, rfl⟩ : -1 = r1 ∧ false = r2 := by simpa using h
   have heb : (c5 != (a1.size : Int)) = true := by simpa using he
   have hec : (c5 == (a1.size : Int)) = false := by simpa using he
   clear h
   go_wp2
   go_ret2
   exact ⟨rfl, HB3.out⟩

/-! ### impl_HoldsIn: function 66 -/
def impl_HoldsIn.f (k : Nat) (a0 : Int) (a1 : ByteArray) : Option (Int × Bool) := (impl_areThings.f a0).bind fun t216 => (if t216 = true then (if (a1.size : Int) > 120 then (some ((-1), false)) else ((impl_holdsIn.f k a0 a1).bind fun bt217 => (some (bt217.1, bt217.2)))) else (some ((-1), false)))
theorem impl_HoldsIn.mono : ∀ a0 a1 k, LeO (impl_HoldsIn.f k a0 a1) (impl_HoldsIn.f (k + 1) a0 a1) := by
 intro a0 a1 k
 unfold impl_HoldsIn.f
 repeat' first
   | (with_reducible first | exact impl_holdsIn.mono _ _ _ | exact LeO.refl _ | exact LeO.none _ | refine LeO.ite ?_ ?_ | refine LeO.bind ?_ (fun _ => ?_))
   | refine LeO.ite ?_ ?_
   | refine LeO.bind ?_ (fun _ => ?_)
set_option maxHeartbeats 8000000 in
set_option maxRecDepth 100000 in
theorem impl_HoldsIn.calls (k : Nat) (a0 : Int) (a1 : ByteArray) (r1 : Int) (r2 : Bool) (w : World) (h : impl_HoldsIn.f k a0 a1 = some (r1, r2)) :
  Calls Try.prog 66 #[.int .i64 a0, .string a1] w fun e w' => e = .returned (.tuple #[.int .i64 r1, .bool r2]) ∧ Below w.heap.size w w' := by
 have HB := Asd.mk (Below.refl w.heap.size w)
 have H : ((impl_areThings.f a0).bind fun t216 => (if t216 = true then (if (a1.size : Int) > 120 then (some ((-1), false)) else ((impl_holdsIn.f k a0 a1).bind fun bt217 => (some (bt217.1, bt217.2)))) else (some ((-1), false)))) = some (r1, r2) := h
 clear h
 replace H := Option.bind_eq_some_iff.mp H
 obtain ⟨t216, A30, H⟩ := H
 try dsimp only at H
 have A3 := Asd.mk A30
 clear A30
 by_cases c4 : t216 = true
 ·subst c4
  rw [if_pos rfl] at H
  by_cases c5 : (a1.size : Int) > 120
  ·rw [if_pos c5] at H
   have c5b0 : decide (120 < (a1.size : Int)) = true := decide_eq_true c5
   have c5b1 : decide (120 < a1.size) = true := decide_eq_true (by omega)
   clear c5
   simp only [Option.some.injEq, Prod.mk.injEq] at H
   obtain ⟨rfl, rfl⟩ := H
   go_enter Try.func66, Try.ntmps66
   go_wp2_with (first | ((with_reducible refine gate_callee (f := 111) rfl ?_); refine gsM (some 7) rfl rfl Try.func111 (by kernel_rfl) rfl #[.int .i64 a0] rfl ?_; (with_reducible refine (impl_areThings.calls a0 true _ A3.out).mono ?_); rintro e w' ⟨rfl, ⟨nd, rfl⟩⟩; refine ⟨_, rfl, ?_⟩))
   go_ret2
   exact ⟨by first | rfl | (simp [*, errW_none, errW_some] <;> rfl), wZ HB⟩
  ·rw [if_neg c5] at H
   have c5b0 : decide (120 < (a1.size : Int)) = false := decide_eq_false c5
   have c5b1 : decide (120 < a1.size) = false := decide_eq_false (by omega)
   clear c5
   replace H := Option.bind_eq_some_iff.mp H
   obtain ⟨⟨t217, t218⟩, A60, H⟩ := H
   try dsimp only at H
   have A6 := Asd.mk A60
   clear A60
   simp only [Option.some.injEq, Prod.mk.injEq] at H
   obtain ⟨rfl, rfl⟩ := H
   go_enter Try.func66, Try.ntmps66
   go_wp2_with (first | ((with_reducible refine gate_callee (f := 111) rfl ?_); refine gsM (some 7) rfl rfl Try.func111 (by kernel_rfl) rfl #[.int .i64 a0] rfl ?_; (with_reducible refine (impl_areThings.calls a0 true _ A3.out).mono ?_); rintro e w' ⟨rfl, ⟨nd, rfl⟩⟩; refine ⟨_, rfl, ?_⟩) | ((with_reducible refine gate_callee (f := 112) rfl ?_); refine gsM (some 16) rfl rfl Try.func112 (by kernel_rfl) rfl #[.int .i64 a0, .string a1] rfl ?_; (with_reducible refine (impl_holdsIn.calls k a0 a1 t217 t218 _ A6.out).mono ?_); rintro e w7 ⟨rfl, hb⟩; refine ⟨_, rfl, ?_⟩; replace HB := bW HB hb; (try clear hb); (try clear hb2); (try clear hk); (try clear hi)))
   go_ret2
   exact ⟨by first | rfl | (simp [*, errW_none, errW_some] <;> rfl), wZ HB⟩
 ·replace c4 := Bool.eq_false_iff.mpr c4
  subst c4
  rw [if_neg (show ¬ (false = true) by decide)] at H
  simp only [Option.some.injEq, Prod.mk.injEq] at H
  obtain ⟨rfl, rfl⟩ := H
  go_enter Try.func66, Try.ntmps66
  go_wp2_with (first | ((with_reducible refine gate_callee (f := 111) rfl ?_); refine gsM (some 7) rfl rfl Try.func111 (by kernel_rfl) rfl #[.int .i64 a0] rfl ?_; (with_reducible refine (impl_areThings.calls a0 false _ A3.out).mono ?_); rintro e w' ⟨rfl, ⟨nd, rfl⟩⟩; refine ⟨_, rfl, ?_⟩))
  go_ret2
  exact ⟨by first | rfl | (simp [*, errW_none, errW_some] <;> rfl), wZ HB⟩

/-! ### impl_copyMind: function 116 -/
def impl_copyMind.l0 : Nat → List (List Int) → Int → Int → Int → List Int → List (List Int) → Option (Int × List Int × (List (List Int)))
 | 0, _, _, _, _, _, _ => none
 | k + 1, x14, x15, x16, x228000, x228001, x228002 => if x16 < x15 then (if 0 ≤ x16 then (if x16 < (x14.length : Int) then ((some (([] : List Int) : List Int)).bind fun y229 => (if y229.length + (rd_L5 x14 x16).length < 17592186044416 then (if x228002.length < 5864062014805 then (impl_copyMind.l0 k x14 x15 (wrap64 (x16 + 1)) x228000 x228001 (x228002 ++ [(y229 ++ (rd_L5 x14 x16))])) else (none)) else (none))) else (none)) else (none)) else (some (x228000, x228001, x228002))
def impl_copyMind.f (k : Nat) (a0_0 : Int) (l0_1 : List Int) (l0_2 : List (List Int)) : Option (Int × List Int × (List (List Int))) := (some (([] : List Int) : List Int)).bind fun y221 => (if y221.length + l0_1.length < 17592186044416 then (impl_copyMind.l0 k l0_2 (l0_2.length : Int) 0 a0_0 (y221 ++ l0_1) ([] : List (List Int))) else (none))
theorem impl_copyMind.mono_l : ∀ k, (∀ y0 y1 y2 y3 y4 y5, LeO (impl_copyMind.l0 k y0 y1 y2 y3 y4 y5) (impl_copyMind.l0 (k + 1) y0 y1 y2 y3 y4 y5))
 | 0 => fun _ _ _ _ _ _ r h => by simp [impl_copyMind.l0] at h
 | k + 1 => by
  have ih0 := impl_copyMind.mono_l k
  ·intro y0 y1 y2 y3 y4 y5
   unfold impl_copyMind.l0
   repeat' first
   | (with_reducible first | exact ih0 _ _ _ _ _ _ | exact LeO.refl _ | exact LeO.none _ | refine LeO.ite ?_ ?_ | refine LeO.bind ?_ (fun _ => ?_))
   | refine LeO.ite ?_ ?_
   | refine LeO.bind ?_ (fun _ => ?_)
theorem impl_copyMind.mono : ∀ a0 a1 a2 k, LeO (impl_copyMind.f k a0 a1 a2) (impl_copyMind.f (k + 1) a0 a1 a2) := by
 intro a0 a1 a2 k
 have ih0 := impl_copyMind.mono_l k
 unfold impl_copyMind.f
 repeat' first
   | (with_reducible first | exact ih0 _ _ _ _ _ _ | exact LeO.refl _ | exact LeO.none _ | refine LeO.ite ?_ ?_ | refine LeO.bind ?_ (fun _ => ?_))
   | refine LeO.ite ?_ ?_
   | refine LeO.bind ?_ (fun _ => ?_)
def impl_copyMind.T1 : Bool × List (List Nat × List Nat) := (true, [([], []), ([0], [0]), ([], []), ([], []), ([3], [3]), ([2, 4], [2, 4]), ([1, 5], [1, 5]), ([], []), ([7, 6, 5, 0, 1, 2, 3, 4, 5, 6, 7], [6, 7])])
def impl_copyMind.B1 : List Nat := [0, 1, 0, 0, 8, 28, 63, 0, 255]
theorem impl_copyMind.tab1 : rtab .any (opsOf Try.f116 1) = impl_copyMind.T1 := by kernel_rfl
theorem impl_copyMind.bits1 : waitsOk impl_copyMind.T1.2 impl_copyMind.B1 = true := by kernel_rfl
def impl_copyMind.T5 : Bool × List (List Nat × List Nat) := (true, [([], []), ([0], [0]), ([], []), ([], []), ([2, 3], [2, 3]), ([4], [4]), ([1, 5, 4], [1, 5]), ([0, 1, 2, 3, 4, 5, 6], []), ([7, 6, 6, 0, 1, 2, 3, 4, 5, 6], [6, 7])])
def impl_copyMind.B5 : List Nat := [0, 1, 0, 0, 12, 28, 63, 127, 255]
theorem impl_copyMind.tab5 : rtab .any (opsOf Try.f116 5) = impl_copyMind.T5 := by kernel_rfl
theorem impl_copyMind.bits5 : waitsOk impl_copyMind.T5.2 impl_copyMind.B5 = true := by kernel_rfl
set_option maxHeartbeats 8000000 in
set_option maxRecDepth 100000 in
theorem impl_copyMind.calls (k : Nat) (a0_0 : Int) (A0_1 : Option Addr) (c0_1 : Nat) (l0_1 : List Int) (A0_2 : Option Addr) (c0_2 : Nat) (l0_2 : List (List Int)) (r1 : Int) (r2 : List Int) (r3 : List (List Int)) (w : World) (hr0_1 : Kd.C (Kd.int .i64) w A0_1 l0_1.length l0_1) (hc0_1 : l0_1.length ≤ c0_1) (hr0_2 : Kd.C (Kd.slice 3 (Kd.int .i64)) w A0_2 l0_2.length l0_2) (hc0_2 : l0_2.length ≤ c0_2) (h : impl_copyMind.f k a0_0 l0_1 l0_2 = some (r1, r2, r3)) :
  Calls Try.prog 116 #[.agg #[.int .i64 a0_0, .slice A0_1 l0_1.length c0_1, .slice A0_2 l0_2.length c0_2]] w fun e w' => ∃ v1_ v2_ : Value, e = .returned (.agg #[.int .i64 r1, v1_, v2_]) ∧ Kd.R (Kd.int .i64) 3 w' w.heap.size (fun _ => True) v1_ r2 ∧ Kd.S (Kd.slice 3 (Kd.int .i64)) 55 w' w.heap.size (fun k_ => some k_ ≠ (v1_ : Value).ownBlock) v2_ r3 ∧ Below w.heap.size w w' := by
 have hu58 := Try.underlying58
 have HR0_1 := Asd.mk hr0_1
 have HC0_1 := Asd.mk hc0_1
 clear hr0_1 hc0_1
 have HR0_2 := Asd.mk hr0_2
 have HC0_2 := Asd.mk hc0_2
 clear hr0_2 hc0_2
 have HB := Asd.mk (Below.refl w.heap.size w)
 have H : ((some (([] : List Int) : List Int)).bind fun y221 => (if y221.length + l0_1.length < 17592186044416 then (impl_copyMind.l0 k l0_2 (l0_2.length : Int) 0 a0_0 (y221 ++ l0_1) ([] : List (List Int))) else (none))) = some (r1, r2, r3) := h
 clear h
 obtain ⟨y221, hy221⟩ : ∃ y_ : List Int, y_ = (([] : List Int)) := ⟨_, rfl⟩
 replace H : (if y221.length + l0_1.length < 17592186044416 then (impl_copyMind.l0 k l0_2 (l0_2.length : Int) 0 a0_0 (y221 ++ l0_1) ([] : List (List Int))) else (none)) = some (r1, r2, r3) := by first | (rw [hy221]; with_reducible exact H) | (have H2_ := (Option.bind_some _ _).symm.trans H; rw [hy221]; with_reducible exact H2_) | (have H2_ := (Option.bind_some _ _).symm.trans H; with_reducible exact H2_) | with_reducible exact H | (rw [hy221]; exact H) | exact H
 have Ny221 := Asd.mk hy221
 clear hy221
 by_cases c2 : y221.length + l0_1.length < 17592186044416; rotate_left; (rw [if_neg c2] at H; exact absurd H (by simp))
 rw [if_pos c2] at H
 have LMc2 := Asd.mk c2
 clear c2
 obtain ⟨y224, hy224⟩ : ∃ y_ : List Int, y_ = (y221 ++ l0_1) := ⟨_, rfl⟩
 replace H : (impl_copyMind.l0 k l0_2 (l0_2.length : Int) 0 a0_0 y224 ([] : List (List Int))) = some (r1, r2, r3) := by first | (rw [hy224]; with_reducible exact H) | (have H2_ := (Option.bind_some _ _).symm.trans H; rw [hy224]; with_reducible exact H2_) | (have H2_ := (Option.bind_some _ _).symm.trans H; with_reducible exact H2_) | with_reducible exact H | (rw [hy224]; exact H) | exact H
 have Ny224 := Asd.mk hy224
 clear hy224
 have H' := Asd.mk H
 clear H
 go_enter Try.func116, Try.ntmps116
 try go_wp2_with (first | ((with_reducible refine gate_dst (N := 1) rfl ?_); refine bxE ?hg (N := 1) ?hd (cs := #[.int .i64 a0_0, .slice A0_1 l0_1.length c0_1, .slice A0_2 l0_2.length c0_2]) (t := 58) ?hr ?_; (case hd => rfl); (case hg => rfl); (case hr => first | (go_simp; done) | (go_simp; rfl)); intro gb219 hg w3 hbox hb; have BK219 := Asd.mk (hbox); have GW219 := bG HB hg; have GE219 := bG HB hg; replace HB := bW HB hb; clear hb hbox hg) | ((with_reducible refine gate_dst (N := 2) rfl ?_); refine bxE ?hg (N := 2) ?hd (cs := #[.int .i64 0, .slice none 0 0, .slice none 0 0]) (t := 58) ?hr ?_; (case hd => rfl); (case hg => rfl); (case hr => first | (go_simp; done) | (go_simp; rfl)); intro gb220 hg w4 hbox hb; have BK220 := Asd.mk (hbox); have GW220 := bG HB hg; have GE220 := bG HB hg; replace HB := bW HB hb; have NB219_220 := bL BK219 hg; have NB220_219 := bM BK219 hg; replace BK219 := bU BK219 hb; clear hb hbox hg))
 replace BK219 := Asd.mk (bkD BK219.out)
 replace BK220 := Asd.mk (bkD BK220.out)
 replace HB := Asd.mk (bwD HB.out)
 refine start_ (n := 9) (S := fun w' => w'.cell? ⟨gb219, 0, none⟩ = some (.int .i64 a0_0) ∧ w'.cell? ⟨gb219, 1, none⟩ = some (.slice A0_1 l0_1.length c0_1) ∧ w'.cell? ⟨gb219, 2, none⟩ = some (.slice A0_2 l0_2.length c0_2)) (ds := []) Mk8_0 (by kernel_rfl) rfl rfl ⟨(bkC BK219.out 0).trans rfl, (bkC BK219.out 1).trans rfl, (bkC BK219.out 2).trans rfl⟩ (fun hHeld => ?_); refine with_tabW impl_copyMind.tab1 impl_copyMind.bits1 (fun HT_ HW_ => ?_)
 generalize w4.drew = w5 at BK219 BK220 HB hHeld ⊢
 refine pure_ (i := 0) (N := some 6) (v := ?_) (a' := ?_) Mk8_1 rfl rfl (any_of HT_.out (by kernel_rfl)) (fun _ _ _ h => h) (Or.inl ⟨by rfl, ?_⟩) ?_ ?_
 rotate_left
 ·intro w'
  go_simp
  with_reducible rfl
 rotate_left
 ·simp only [Act.put, qA, qB, qC, i64_w, i32_w]
  rfl
 refine pure_ (i := 3) (N := some 9) (v := ?_) (a' := ?_) Mk8_2 rfl rfl (any_of HT_.out (by kernel_rfl)) (fun _ _ _ h => h) (Or.inl ⟨by rfl, ?_⟩) ?_ ?_
 rotate_left
 ·intro w'
  go_simp
  with_reducible rfl
 rotate_left
 ·simp only [Act.put, qA, qB, qC, i64_w, i32_w]
  rfl
 refine take_ (i := 1) (N := some 7) (v := ?_) (a' := ?_) Mk8_3 rfl rfl (take_ofW HT_.out HW_.out (by kernel_rfl)) (fun _ _ _ h => h) (Or.inl ⟨by rfl, ?_⟩) hHeld ?_ ?_
 rotate_left
 ·rintro w' ⟨s0, s1, s2⟩
  go_simp
  with_reducible rfl
 rotate_left
 ·simp only [Act.put, qA, qB, qC, i64_w, i32_w]
  rfl
 refine take_ (i := 4) (N := some 10) (v := ?_) (a' := ?_) #[true, true, false, true, true, false, false, false, false] rfl rfl (take_ofW HT_.out HW_.out (by kernel_rfl)) (fun _ _ _ h => h) (Or.inl ⟨by rfl, ?_⟩) hHeld ?_ ?_
 rotate_left
 ·rintro w' ⟨s0, s1, s2⟩
  go_simp
  with_reducible rfl
 rotate_left
 ·simp only [Act.put, qA, qB, qC, i64_w, i32_w]
  rfl
 refine join_ (σ := Value × Value × Nat) 1 Mk8_9 (fun s_ => [(8, s_.1), (11, s_.2.1), (3, .pointer (some ⟨s_.2.2, 0, none⟩)), (12, .agg #[.int .i64 a0_0, s_.2.1, .slice none 0 0])]) (fun s_ w' => (w'.cell? ⟨gb219, 0, none⟩ = some (.int .i64 a0_0) ∧ w'.cell? ⟨gb219, 1, none⟩ = some (.slice A0_1 l0_1.length c0_1) ∧ w'.cell? ⟨gb219, 2, none⟩ = some (.slice A0_2 l0_2.length c0_2)) ∧ (Kd.R (Kd.int .i64) 3 w' w.heap.size (fun _ => True) s_.2.1 y224) ∧ (w'.heap[gb219]? = some (.cells #[.int .i64 a0_0, .slice A0_1 l0_1.length c0_1, .slice A0_2 l0_2.length c0_2] 58 (0, 0))) ∧ (w'.heap[gb220]? = some (.cells #[.int .i64 0, .slice none 0 0, .slice none 0 0] 58 (0, 0))) ∧ (w'.heap[s_.2.2]? = some (.cells #[.int .i64 0, .slice none 0 0, .slice none 0 0] 58 (0, 0))) ∧ (w.heap.size ≤ s_.2.2) ∧ (w.heap.size ≤ s_.2.2) ∧ (gb219 ≠ s_.2.2) ∧ (s_.2.2 ≠ gb219) ∧ (gb220 ≠ s_.2.2) ∧ (s_.2.2 ≠ gb220) ∧ (Below w.heap.size w w')) ?_ ?_
 rotate_left
 ·intro hCont
  refine two_ (i := 2) (j := 7) (Ni := some 8) (Nj := some 3) Mk8_4 #[true, true, false, true, true, false, false, true, false] rfl rfl rfl rfl (two_of HT_.out (by kernel_rfl)) (by decide) (by decide) (fun K hK => ?_) (fun K hK => ?_)
  ·skip
   refine Kd.R_lit_step (Kd.int .i64) _ 3 ?hg (N := 8) ?hd (xs := ([] : List Int)) (inner := []) (ok := fun _ => True) (okp := fun _ => True) ?hr ?hp (fun _ hk => hk) trivial (Below.refl _ _) (Nat.le_refl _) (by simp) ?_; (case hd => rfl); (case hg => rfl); (case hr => first | (go_simp; done) | (go_simp; rfl)); (case hp => exact (Reps.none _ _))
   intro v222 w6 ho7 hb hg_ hnew_
   clear hg_ hnew_
   (first | rw [← Ny221.out] at ho7 | (simp only [Int.reduceToNat] at ho7; rw [← Ny221.out] at ho7))
   have HO223 := Asd.mk (Kd.R_lower ho7 (below_size (wZ HB)))
   replace BK219 := bU BK219 hb
   replace BK220 := bU BK220 hb
   replace HB := bW HB hb
   clear hb ho7
   refine hK.out _ _ ⟨(bkC BK219.out 0).trans rfl, (bkC BK219.out 1).trans rfl, (bkC BK219.out 2).trans rfl⟩ (fun hHeld => ?_)
   clear hK K
   refine norm_ (a' := ?_) ?_ ?_
   rotate_left
   ·show Act.put _ (some 8) _ = _
    simp only [Act.put, qA, qB, qC, i64_w, i32_w]
    rfl
   refine two_ (i := 5) (j := 7) (Ni := some 11) (Nj := some 3) Mk8_6 Mk8_5 rfl rfl rfl rfl (two_of HT_.out (by kernel_rfl)) (by decide) (by decide) (fun K hK => ?_) (fun K hK => ?_)
   ·skip
    refine Kd.R_append_rows_step (Kd.int .i64) (w0 := w) w.heap.size (by rfl) (.tmp 8) (.tmp 10) 55 3 (.int .i64 0) 8 rfl Try.underlying55 info3 rfl (by decide) (by omega) v222 y221 l0_1 _ _ _ (fun _ => True) (fun _ => False) rfl rfl ?aO ?aR (fun _ _ h => h) (fun _ h => h.elim) ?aF ?aB ?aS ?aL ?_
    (case aR => repeat (first | exact (Kd.C_below HR0_1.out HB.out) | (with_reducible refine Kd.C_alloc ?_ _) | (with_reducible refine Kd.C_drewN ?_ _) | (with_reducible refine Kd.C_drew ?_)))
    (case aB => exact (wZ HB))
    (case aF => exact (fun _ _ => trivial))
    (case aO => exact (rS HO223))
    (case aS => exact (below_size (wZ HB)))
    (case aL => have := LMc2.out; omega)
    intro v225 w8 ho hb hg hat
    rw [← Ny224.out] at ho
    replace BK219 := bN BK219 hg (Kd.R_ne HO223.out BK219.out (by decide))
    replace BK220 := bN BK220 hg (Kd.R_ne HO223.out BK220.out (by decide))
    replace HB := Asd.mk (hb)
    have HO226 := Asd.mk (ho)
    clear HO223 ho hb hg hat
    obtain ⟨Ao9, co9, eo9⟩ := Kd.R_slice HO226.out
    (first | subst eo9 | (injection eo9 with f1_ f2_ f3_; have f4_ := f1_.symm; have f5_ := f3_.symm; clear f1_ f2_ f3_; subst f4_; subst f5_))
    refine hK.out _ _ ⟨(bkC BK219.out 0).trans rfl, (bkC BK219.out 1).trans rfl, (bkC BK219.out 2).trans rfl⟩ (fun hHeld => ?_)
    clear hK K
    refine norm_ (a' := ?_) ?_ ?_
    rotate_left
    ·show Act.put _ (some 11) _ = _
     simp only [Act.put, qA, qB, qC, i64_w, i32_w]
     rfl
    refine pure_ (i := 6) (N := some 12) (v := ?_) (a' := ?_) Mk8_8 rfl rfl (any_of HT_.out (by kernel_rfl)) (fun _ _ _ h => h) (Or.inl ⟨by rfl, ?_⟩) ?_ ?_
    rotate_left
    ·intro w'
     go_simp
     with_reducible rfl
    rotate_left
    ·simp only [Act.put, qA, qB, qC, i64_w, i32_w]
     rfl
    refine one_ (i := 7) (N := some 3) Mk8_9 rfl rfl (one_of HT_.out (by kernel_rfl)) (by decide) (fun K hK => ?_)
    refine box_step ?hg (N := 3) ?hd (cs := #[.int .i64 0, .slice none 0 0, .slice none 0 0]) (t := 58) ?hr ?_; (case hd => rfl); (case hg => rfl); (case hr => first | (go_simp; done) | (go_simp; rfl))
    intro gb227 hg w10 hbox hb
    replace HO226 := bR HO226 hb
    have BK227 := Asd.mk (hbox)
    have GW227 := bG HB hg
    have GE227 := bG HB hg
    replace HB := bW HB hb
    have NB219_227 := bL BK219 hg
    have NB227_219 := bM BK219 hg
    replace BK219 := bU BK219 hb
    have NB220_227 := bL BK220 hg
    have NB227_220 := bM BK220 hg
    replace BK220 := bU BK220 hb
    clear hb hbox hg
    refine hK.out _ _ ⟨(bkC BK219.out 0).trans rfl, (bkC BK219.out 1).trans rfl, (bkC BK219.out 2).trans rfl⟩ (fun hHeld => ?_)
    clear hK K
    refine norm_ (a' := ?_) ?_ ?_
    rotate_left
    ·show Act.put _ (some 3) _ = _
     simp only [Act.put, qA, qB, qC, i64_w, i32_w]
     rfl
    exact norm_ (by simp only [putAll, Act.put, qA, qB, qC]) (hCont (v222, .slice Ao9 y224.length co9, gb227) _ ⟨hHeld, (rS HO226), (kS BK219), (kS BK220), (kS BK227), GW227.out, GE227.out, NB219_227.out, NB227_219.out, NB220_227.out, NB227_220.out, (wZ HB)⟩)
   ·skip
    refine box_step ?hg (N := 3) ?hd (cs := #[.int .i64 0, .slice none 0 0, .slice none 0 0]) (t := 58) ?hr ?_; (case hd => rfl); (case hg => rfl); (case hr => first | (go_simp; done) | (go_simp; rfl))
    intro gb227 hg w8 hbox hb
    replace HO223 := bR HO223 hb
    have BK227 := Asd.mk (hbox)
    have GW227 := bG HB hg
    have GE227 := bG HB hg
    replace HB := bW HB hb
    have NB219_227 := bL BK219 hg
    have NB227_219 := bM BK219 hg
    replace BK219 := bU BK219 hb
    have NB220_227 := bL BK220 hg
    have NB227_220 := bM BK220 hg
    replace BK220 := bU BK220 hb
    clear hb hbox hg
    refine hK.out _ _ ⟨(bkC BK219.out 0).trans rfl, (bkC BK219.out 1).trans rfl, (bkC BK219.out 2).trans rfl⟩ (fun hHeld => ?_)
    clear hK K
    refine norm_ (a' := ?_) ?_ ?_
    rotate_left
    ·show Act.put _ (some 3) _ = _
     simp only [Act.put, qA, qB, qC, i64_w, i32_w]
     rfl
    refine one_ (i := 5) (N := some 11) Mk8_7 rfl rfl (one_of HT_.out (by kernel_rfl)) (by decide) (fun K hK => ?_)
    refine Kd.R_append_rows_step (Kd.int .i64) (w0 := w) w.heap.size (by rfl) (.tmp 8) (.tmp 10) 55 3 (.int .i64 0) 8 rfl Try.underlying55 info3 rfl (by decide) (by omega) v222 y221 l0_1 _ _ _ (fun _ => True) (fun _ => False) rfl rfl ?aO ?aR (fun _ _ h => h) (fun _ h => h.elim) ?aF ?aB ?aS ?aL ?_
    (case aR => repeat (first | exact (Kd.C_below HR0_1.out HB.out) | (with_reducible refine Kd.C_alloc ?_ _) | (with_reducible refine Kd.C_drewN ?_ _) | (with_reducible refine Kd.C_drew ?_)))
    (case aB => exact (wZ HB))
    (case aF => exact (fun _ _ => trivial))
    (case aO => exact (rS HO223))
    (case aS => exact (below_size (wZ HB)))
    (case aL => have := LMc2.out; omega)
    intro v225 w9 ho hb hg hat
    rw [← Ny224.out] at ho
    replace BK219 := bN BK219 hg (Kd.R_ne HO223.out BK219.out (by decide))
    replace BK220 := bN BK220 hg (Kd.R_ne HO223.out BK220.out (by decide))
    replace BK227 := bN BK227 hg (Kd.R_ne HO223.out BK227.out (by decide))
    replace HB := Asd.mk (hb)
    have HO226 := Asd.mk (ho)
    clear HO223 ho hb hg hat
    obtain ⟨Ao10, co10, eo10⟩ := Kd.R_slice HO226.out
    (first | subst eo10 | (injection eo10 with f1_ f2_ f3_; have f4_ := f1_.symm; have f5_ := f3_.symm; clear f1_ f2_ f3_; subst f4_; subst f5_))
    refine hK.out _ _ ⟨(bkC BK219.out 0).trans rfl, (bkC BK219.out 1).trans rfl, (bkC BK219.out 2).trans rfl⟩ (fun hHeld => ?_)
    clear hK K
    refine norm_ (a' := ?_) ?_ ?_
    rotate_left
    ·show Act.put _ (some 11) _ = _
     simp only [Act.put, qA, qB, qC, i64_w, i32_w]
     rfl
    refine pure_ (i := 6) (N := some 12) (v := ?_) (a' := ?_) Mk8_9 rfl rfl (any_of HT_.out (by kernel_rfl)) (fun _ _ _ h => h) (Or.inl ⟨by rfl, ?_⟩) ?_ ?_
    rotate_left
    ·intro w'
     go_simp
     with_reducible rfl
    rotate_left
    ·simp only [Act.put, qA, qB, qC, i64_w, i32_w]
     rfl
    exact norm_ (by simp only [putAll, Act.put, qA, qB, qC]) (hCont (v222, .slice Ao10 y224.length co10, gb227) _ ⟨hHeld, (rS HO226), (kS BK219), (kS BK220), (kS BK227), GW227.out, GE227.out, NB219_227.out, NB227_219.out, NB220_227.out, NB227_220.out, (wZ HB)⟩)
  ·skip
   refine box_step ?hg (N := 3) ?hd (cs := #[.int .i64 0, .slice none 0 0, .slice none 0 0]) (t := 58) ?hr ?_; (case hd => rfl); (case hg => rfl); (case hr => first | (go_simp; done) | (go_simp; rfl))
   intro gb227 hg w6 hbox hb
   have BK227 := Asd.mk (hbox)
   have GW227 := bG HB hg
   have GE227 := bG HB hg
   replace HB := bW HB hb
   have NB219_227 := bL BK219 hg
   have NB227_219 := bM BK219 hg
   replace BK219 := bU BK219 hb
   have NB220_227 := bL BK220 hg
   have NB227_220 := bM BK220 hg
   replace BK220 := bU BK220 hb
   clear hb hbox hg
   refine hK.out _ _ ⟨(bkC BK219.out 0).trans rfl, (bkC BK219.out 1).trans rfl, (bkC BK219.out 2).trans rfl⟩ (fun hHeld => ?_)
   clear hK K
   refine norm_ (a' := ?_) ?_ ?_
   rotate_left
   ·show Act.put _ (some 3) _ = _
    simp only [Act.put, qA, qB, qC, i64_w, i32_w]
    rfl
   refine one_ (i := 2) (N := some 8) Mk8_5 rfl rfl (one_of HT_.out (by kernel_rfl)) (by decide) (fun K hK => ?_)
   refine Kd.R_lit_step (Kd.int .i64) _ 3 ?hg (N := 8) ?hd (xs := ([] : List Int)) (inner := []) (ok := fun _ => True) (okp := fun _ => True) ?hr ?hp (fun _ hk => hk) trivial (Below.refl _ _) (Nat.le_refl _) (by simp) ?_; (case hd => rfl); (case hg => rfl); (case hr => first | (go_simp; done) | (go_simp; rfl)); (case hp => exact (Reps.none _ _))
   intro v222 w7 ho8 hb hg_ hnew_
   clear hg_ hnew_
   (first | rw [← Ny221.out] at ho8 | (simp only [Int.reduceToNat] at ho8; rw [← Ny221.out] at ho8))
   have HO223 := Asd.mk (Kd.R_lower ho8 (below_size (wZ HB)))
   replace BK219 := bU BK219 hb
   replace BK220 := bU BK220 hb
   replace BK227 := bU BK227 hb
   replace HB := bW HB hb
   clear hb ho8
   refine hK.out _ _ ⟨(bkC BK219.out 0).trans rfl, (bkC BK219.out 1).trans rfl, (bkC BK219.out 2).trans rfl⟩ (fun hHeld => ?_)
   clear hK K
   refine norm_ (a' := ?_) ?_ ?_
   rotate_left
   ·show Act.put _ (some 8) _ = _
    simp only [Act.put, qA, qB, qC, i64_w, i32_w]
    rfl
   refine one_ (i := 5) (N := some 11) Mk8_7 rfl rfl (one_of HT_.out (by kernel_rfl)) (by decide) (fun K hK => ?_)
   refine Kd.R_append_rows_step (Kd.int .i64) (w0 := w) w.heap.size (by rfl) (.tmp 8) (.tmp 10) 55 3 (.int .i64 0) 8 rfl Try.underlying55 info3 rfl (by decide) (by omega) v222 y221 l0_1 _ _ _ (fun _ => True) (fun _ => False) rfl rfl ?aO ?aR (fun _ _ h => h) (fun _ h => h.elim) ?aF ?aB ?aS ?aL ?_
   (case aR => repeat (first | exact (Kd.C_below HR0_1.out HB.out) | (with_reducible refine Kd.C_alloc ?_ _) | (with_reducible refine Kd.C_drewN ?_ _) | (with_reducible refine Kd.C_drew ?_)))
   (case aB => exact (wZ HB))
   (case aF => exact (fun _ _ => trivial))
   (case aO => exact (rS HO223))
   (case aS => exact (below_size (wZ HB)))
   (case aL => have := LMc2.out; omega)
   intro v225 w9 ho hb hg hat
   rw [← Ny224.out] at ho
   replace BK219 := bN BK219 hg (Kd.R_ne HO223.out BK219.out (by decide))
   replace BK220 := bN BK220 hg (Kd.R_ne HO223.out BK220.out (by decide))
   replace BK227 := bN BK227 hg (Kd.R_ne HO223.out BK227.out (by decide))
   replace HB := Asd.mk (hb)
   have HO226 := Asd.mk (ho)
   clear HO223 ho hb hg hat
   obtain ⟨Ao10, co10, eo10⟩ := Kd.R_slice HO226.out
   (first | subst eo10 | (injection eo10 with f1_ f2_ f3_; have f4_ := f1_.symm; have f5_ := f3_.symm; clear f1_ f2_ f3_; subst f4_; subst f5_))
   refine hK.out _ _ ⟨(bkC BK219.out 0).trans rfl, (bkC BK219.out 1).trans rfl, (bkC BK219.out 2).trans rfl⟩ (fun hHeld => ?_)
   clear hK K
   refine norm_ (a' := ?_) ?_ ?_
   rotate_left
   ·show Act.put _ (some 11) _ = _
    simp only [Act.put, qA, qB, qC, i64_w, i32_w]
    rfl
   refine pure_ (i := 6) (N := some 12) (v := ?_) (a' := ?_) Mk8_9 rfl rfl (any_of HT_.out (by kernel_rfl)) (fun _ _ _ h => h) (Or.inl ⟨by rfl, ?_⟩) ?_ ?_
   rotate_left
   ·intro w'
    go_simp
    with_reducible rfl
   rotate_left
   ·simp only [Act.put, qA, qB, qC, i64_w, i32_w]
    rfl
   exact norm_ (by simp only [putAll, Act.put, qA, qB, qC]) (hCont (v222, .slice Ao10 y224.length co10, gb227) _ ⟨hHeld, (rS HO226), (kS BK219), (kS BK220), (kS BK227), GW227.out, GE227.out, NB219_227.out, NB227_219.out, NB220_227.out, NB227_220.out, (wZ HB)⟩)
 rintro ⟨v222, v225, gb227⟩ w11 ⟨hS_, h0_, h1_, h2_, h3_, h4_, h5_, h6_, h7_, h8_, h9_, h10_⟩
 have HO226 : Asd (Kd.R (Kd.int .i64) 3 w11 w.heap.size (fun _ => True) v225 y224) := ⟨h0_⟩
 replace BK219 : Asd (w11.heap[gb219]? = some (.cells #[.int .i64 a0_0, .slice A0_1 l0_1.length c0_1, .slice A0_2 l0_2.length c0_2] 58 (0, 0))) := ⟨h1_⟩
 replace BK220 : Asd (w11.heap[gb220]? = some (.cells #[.int .i64 0, .slice none 0 0, .slice none 0 0] 58 (0, 0))) := ⟨h2_⟩
 have BK227 : Asd (w11.heap[gb227]? = some (.cells #[.int .i64 0, .slice none 0 0, .slice none 0 0] 58 (0, 0))) := ⟨h3_⟩
 have GW227 : Asd (w.heap.size ≤ gb227) := ⟨h4_⟩
 have GE227 : Asd (w.heap.size ≤ gb227) := ⟨h5_⟩
 have NB219_227 : Asd (gb219 ≠ gb227) := ⟨h6_⟩
 have NB227_219 : Asd (gb227 ≠ gb219) := ⟨h7_⟩
 have NB220_227 : Asd (gb220 ≠ gb227) := ⟨h8_⟩
 have NB227_220 : Asd (gb227 ≠ gb220) := ⟨h9_⟩
 replace HB : Asd (Below w.heap.size w w11) := ⟨h10_⟩
 clear h0_ h1_ h2_ h3_ h4_ h5_ h6_ h7_ h8_ h9_ h10_
 have hHeld : w11.cell? ⟨gb219, 0, none⟩ = some (.int .i64 a0_0) ∧ w11.cell? ⟨gb219, 1, none⟩ = some (.slice A0_1 l0_1.length c0_1) ∧ w11.cell? ⟨gb219, 2, none⟩ = some (.slice A0_2 l0_2.length c0_2) := hS_
 obtain ⟨Ao12, co12, eo12⟩ := Kd.R_slice HO226.out
 (first | subst eo12 | (injection eo12 with f1_ f2_ f3_; have f4_ := f1_.symm; have f5_ := f3_.symm; clear f1_ f2_ f3_; subst f4_; subst f5_))
 refine norm_ (a' := ?_) ?_ ?_
 rotate_left
 ·simp only [putAll, Act.put, qA, qB, qC]
  rfl
 refine one_ (i := 8) (N := none) Mk8_10 rfl rfl (one_of HT_.out (by kernel_rfl)) (by decide) (fun K hK => ?_)
 have hs13 := bC BK227 0
 have hfs13 := bkF BK227.out 0
 have hns13_0 := NB219_227.out
 have hns13_1 := NB220_227.out
 have hms13_0 := NB227_219.out
 have hms13_1 := NB227_220.out
 have hs14 := bC BK227 1
 have hfs14 := bkF BK227.out 1
 have hns14_0 := NB219_227.out
 have hns14_1 := NB220_227.out
 have hms14_0 := NB227_219.out
 have hms14_1 := NB227_220.out
 have hs15 := bC BK227 2
 have hfs15 := bkF BK227.out 2
 have hns15_0 := NB219_227.out
 have hns15_1 := NB220_227.out
 have hms15_0 := NB227_219.out
 have hms15_1 := NB227_220.out
 refine skip_ (w1 := ?_) (by rfl) rfl ?_ ?_
 rotate_left
 ·go_simp
  rfl
 refine hK.out _ _ ⟨((cell_far (p := ⟨gb227, _, none⟩) NB219_227.out _).trans (((cell_far (p := ⟨gb227, _, none⟩) NB219_227.out _).trans (((cell_far (p := ⟨gb227, _, none⟩) NB219_227.out _).trans (hHeld.1)))))), ((cell_far (p := ⟨gb227, _, none⟩) NB219_227.out _).trans (((cell_far (p := ⟨gb227, _, none⟩) NB219_227.out _).trans (((cell_far (p := ⟨gb227, _, none⟩) NB219_227.out _).trans (hHeld.2.1)))))), ((cell_far (p := ⟨gb227, _, none⟩) NB219_227.out _).trans (((cell_far (p := ⟨gb227, _, none⟩) NB219_227.out _).trans (((cell_far (p := ⟨gb227, _, none⟩) NB219_227.out _).trans (hHeld.2.2))))))⟩ (fun hHeld => ?_)
 clear hK K
 refine done_ (done_of HT_.out (by kernel_rfl)) ?_
 have hnb16 := NB219_220.out
 have hnc16 := NB220_219.out
 have hnb17 := NB219_227.out
 have hnc17 := NB227_219.out
 obtain ⟨hcz18_0, hcz18_1, hcz18_2, hfz18_0, hfz18_1, hfz18_2⟩ := b3 BK219
 try go_wp2
 go_loopg [16] k (fun kq v16 w' => ∃ (x16_1 : Int) (x228002_1 : List (List Int)) (u228002 : Value), v16 = .int .i64 x16_1 ∧ Asd (impl_copyMind.l0 kq l0_2 (l0_2.length : Int) x16_1 a0_0 y224 x228002_1 = some (r1, r2, r3)) ∧ Asd (kq ≤ k) ∧ Asd (Kd.R (Kd.int .i64) 3 w' w.heap.size (fun _ => True) (.slice Ao12 y224.length co12) y224) ∧ Asd (Kd.S (Kd.slice 3 (Kd.int .i64)) 55 w' w.heap.size (fun k_ => some k_ ≠ ((.slice Ao12 y224.length co12) : Value).ownBlock) u228002 x228002_1) ∧ Asd (w'.heap[gb219]? = some (.cells #[.int .i64 a0_0, (.slice A0_1 l0_1.length c0_1), (.slice A0_2 l0_2.length c0_2)] 58 (0, 0))) ∧ Asd (w'.heap[gb220]? = some (.cells #[.int .i64 0, (.slice none 0 0), (.slice none 0 0)] 58 (0, 0))) ∧ Asd (w'.heap[gb227]? = some (.cells #[.int .i64 a0_0, (.slice Ao12 y224.length co12), u228002] 58 (0, 0))) ∧ Asd (Below w.heap.size w w'))
 case atStart => exact ⟨(0), (([] : List (List Int))), (.slice none 0 0), (by first | rfl | (simp; done) | (simp [*]; done)), H', ⟨Nat.le_refl _⟩, ⟨rT HO226⟩, ⟨by first | exact Kd.S_nil _ _ _ _ _ | exact Kd.N_nil _ _ _ _ _ | exact Kd.V_nil _ _ _ _ _ | exact Kd.Q_nil _ _ _ _ _ | exact Kd.R_nil _ _ _ _ _⟩, ⟨kS BK219⟩, ⟨kS BK220⟩, ⟨kP BK227⟩, ⟨wZ HB⟩⟩
 case round =>
  clear H'
  obtain ⟨x16_1, x228002_1, u228002, rfl, HA, HK1, HO_228001, HO_228002, BK219, BK220, BK227, HB⟩ := hrel
  cases gk with
  | zero => exact absurd HA.out (by simp [impl_copyMind.l0])
  | succ k1 =>
   have H := HA.out
   clear HA
   simp only [impl_copyMind.l0] at H
   by_cases c19 : x16_1 < (l0_2.length : Int)
   ·rw [if_pos c19] at H
    have c19b0 : decide (x16_1 < (l0_2.length : Int)) = true := decide_eq_true c19
    clear c19
    by_cases c20 : 0 ≤ x16_1; rotate_left; (rw [if_neg c20] at H; exact absurd H (by simp))
    rw [if_pos c20] at H
    have c20b0 : decide (0 ≤ x16_1) = true := decide_eq_true c20
    clear c20
    by_cases c21 : x16_1 < (l0_2.length : Int); rotate_left; (rw [if_neg c21] at H; exact absurd H (by simp))
    rw [if_pos c21] at H
    have c21b0 : decide (x16_1 < (l0_2.length : Int)) = true := decide_eq_true c21
    clear c21
    obtain ⟨y229, hy229⟩ : ∃ y_ : List Int, y_ = (([] : List Int)) := ⟨_, rfl⟩
    replace H : (if y229.length + (rd_L5 l0_2 x16_1).length < 17592186044416 then (if x228002_1.length < 5864062014805 then (impl_copyMind.l0 k1 l0_2 (l0_2.length : Int) (wrap64 (x16_1 + 1)) a0_0 y224 (x228002_1 ++ [(y229 ++ (rd_L5 l0_2 x16_1))])) else (none)) else (none)) = some (r1, r2, r3) := by first | (rw [hy229]; with_reducible exact H) | (have H2_ := (Option.bind_some _ _).symm.trans H; rw [hy229]; with_reducible exact H2_) | (have H2_ := (Option.bind_some _ _).symm.trans H; with_reducible exact H2_) | with_reducible exact H | (rw [hy229]; exact H) | exact H
    have Ny229 := Asd.mk hy229
    clear hy229
    by_cases c22 : y229.length + (rd_L5 l0_2 x16_1).length < 17592186044416; rotate_left; (rw [if_neg c22] at H; exact absurd H (by simp))
    rw [if_pos c22] at H
    have LMc22 := Asd.mk c22
    clear c22
    obtain ⟨y232, hy232⟩ : ∃ y_ : List Int, y_ = (y229 ++ (rd_L5 l0_2 x16_1)) := ⟨_, rfl⟩
    replace H : (if x228002_1.length < 5864062014805 then (impl_copyMind.l0 k1 l0_2 (l0_2.length : Int) (wrap64 (x16_1 + 1)) a0_0 y224 (x228002_1 ++ [y232])) else (none)) = some (r1, r2, r3) := by first | (rw [hy232]; with_reducible exact H) | (have H2_ := (Option.bind_some _ _).symm.trans H; rw [hy232]; with_reducible exact H2_) | (have H2_ := (Option.bind_some _ _).symm.trans H; with_reducible exact H2_) | with_reducible exact H | (rw [hy232]; exact H) | exact H
    have Ny232 := Asd.mk hy232
    clear hy232
    by_cases c23 : x228002_1.length < 5864062014805; rotate_left; (rw [if_neg c23] at H; exact absurd H (by simp))
    rw [if_pos c23] at H
    have LMc23 := Asd.mk c23
    clear c23
    obtain ⟨y235, hy235⟩ : ∃ y_ : List (List Int), y_ = (x228002_1 ++ [y232]) := ⟨_, rfl⟩
    replace H : (impl_copyMind.l0 k1 l0_2 (l0_2.length : Int) (wrap64 (x16_1 + 1)) a0_0 y224 y235) = some (r1, r2, r3) := by first | (rw [hy235]; with_reducible exact H) | (have H2_ := (Option.bind_some _ _).symm.trans H; rw [hy235]; with_reducible exact H2_) | (have H2_ := (Option.bind_some _ _).symm.trans H; with_reducible exact H2_) | with_reducible exact H | (rw [hy235]; exact H) | exact H
    have Ny235 := Asd.mk hy235
    clear hy235
    have H' := Asd.mk H
    clear H
    have p228 : 0 ≤ (x16_1 : Int) := odt
    have q228 : x16_1 < (l0_2.length : Int) := odt
    obtain ⟨ad228, A228_0, c228_0, e228, hx228_0, hl228_0, hi228_0⟩ := at_L5 HR0_2.out x16_1 p228 q228
    cases e228
    replace hx228_0 := (HB.out.cell (World.block_lt_of_cell? w _ hx228_0)).trans hx228_0
    have HR228_0 := Asd.mk hi228_0
    have HC228_0 := Asd.mk hl228_0
    clear hi228_0 hl228_0
    replace p228 := eq_true p228
    replace q228 := eq_true q228
    try go_wp2
    replace HO_228001 := Asd.mk (Kd.R_drew HO_228001.out)
    replace HO_228002 := Asd.mk (Kd.S_drew HO_228002.out)
    replace BK219 := Asd.mk (bkD BK219.out)
    replace BK220 := Asd.mk (bkD BK220.out)
    replace BK227 := Asd.mk (bkD BK227.out)
    replace HB := Asd.mk (bwD HB.out)
    refine start_ (n := 9) (S := fun w' => w'.cell? ⟨gb227, 0, none⟩ = some (.int .i64 a0_0) ∧ w'.cell? ⟨gb227, 1, none⟩ = some (.slice Ao12 y224.length co12) ∧ w'.cell? ⟨gb227, 2, none⟩ = some (u228002)) (ds := [8]) Mk8_0 (by kernel_rfl) rfl rfl ⟨(bkC BK227.out 0).trans rfl, (bkC BK227.out 1).trans rfl, (bkC BK227.out 2).trans rfl⟩ (fun hHeld => ?_); refine with_tabW impl_copyMind.tab5 impl_copyMind.bits5 (fun HT_ HW_ => ?_)
    generalize wr.drew = w24 at HO_228001 HO_228002 BK219 BK220 BK227 HB hHeld ⊢
    refine pure_ (i := 0) (N := some 20) (v := ?_) (a' := ?_) Mk8_1 rfl rfl (any_of HT_.out (by kernel_rfl)) (fun _ _ _ h => h) (Or.inl ⟨by rfl, ?_⟩) ?_ ?_
    rotate_left
    ·intro w'
     go_simp
     with_reducible rfl
    rotate_left
    ·simp only [Act.put, qA, qB, qC, i64_w, i32_w]
     rfl
    refine pure_ (i := 3) (N := some 23) (v := ?_) (a' := ?_) Mk8_2 rfl rfl (any_of HT_.out (by kernel_rfl)) (fun _ _ _ h => h) (Or.inl ⟨by rfl, ?_⟩) ?_ ?_
    rotate_left
    ·intro w'
     go_simp
     with_reducible rfl
    rotate_left
    ·simp only [Act.put, qA, qB, qC, i64_w, i32_w]
     rfl
    refine take_ (i := 1) (N := some 21) (v := ?_) (a' := ?_) Mk8_3 rfl rfl (take_ofW HT_.out HW_.out (by kernel_rfl)) (fun _ _ _ h => h) (Or.inl ⟨by rfl, ?_⟩) hHeld ?_ ?_
    rotate_left
    ·rintro w' ⟨s0, s1, s2⟩
     go_simp
     with_reducible rfl
    rotate_left
    ·simp only [Act.put, qA, qB, qC, i64_w, i32_w]
     rfl
    refine one_ (i := 2) (N := some 22) #[true, true, true, true, false, false, false, false, false] rfl rfl (one_of HT_.out (by kernel_rfl)) (by decide) (fun K hK => ?_)
    refine Kd.R_lit_step (Kd.int .i64) _ 3 ?hg (N := 22) ?hd (xs := ([] : List Int)) (inner := []) (ok := fun _ => True) (okp := fun _ => True) ?hr ?hp (fun _ hk => hk) trivial (Below.refl _ _) (Nat.le_refl _) (by simp) ?_; (case hd => rfl); (case hg => rfl); (case hr => first | (go_simp; done) | (go_simp; rfl)); (case hp => exact (Reps.none _ _))
    intro v230 w25 ho26 hb hg_ hnew_
    clear hg_ hnew_
    (first | rw [← Ny229.out] at ho26 | (simp only [Int.reduceToNat] at ho26; rw [← Ny229.out] at ho26))
    replace HO_228002 := Asd.mk (Kd.S_elder' (sS HO_228002) (Kd.R_base ho26) hb)
    have HO231 := Asd.mk (Kd.R_lower (Kd.R_new' ho26 (Kd.R_lt (rS HO_228001))) (below_size (wZ HB)))
    replace HO_228001 := Asd.mk (Kd.R_elder' (rS HO_228001) (Kd.R_base ho26) hb)
    replace BK219 := bU BK219 hb
    replace BK220 := bU BK220 hb
    replace BK227 := bU BK227 hb
    replace HB := bW HB hb
    clear hb ho26
    refine hK.out _ _ ⟨(bkC BK227.out 0).trans rfl, (bkC BK227.out 1).trans rfl, (bkC BK227.out 2).trans rfl⟩ (fun hHeld => ?_)
    clear hK K
    refine norm_ (a' := ?_) ?_ ?_
    rotate_left
    ·show Act.put _ (some 22) _ = _
     simp only [Act.put, qA, qB, qC, i64_w, i32_w]
     rfl
    refine one_ (i := 4) (N := some 24) Mk8_4 rfl rfl (one_of HT_.out (by kernel_rfl)) (by decide) (fun K hK => ?_)
    refine Kd.R_append_rows_step (Kd.int .i64) (w0 := w) w.heap.size (by rfl) (.tmp 22) (.tmp 23) 55 3 (.int .i64 0) 8 rfl Try.underlying55 info3 rfl (by decide) (by omega) v230 y229 (rd_L5 l0_2 x16_1) _ _ _ (fun k_ => some k_ ≠ (.slice Ao12 y224.length co12 : Value).ownBlock) (fun _ => False) rfl rfl ?aO ?aR (fun _ _ h => h) (fun _ h => h.elim) ?aF ?aB ?aS ?aL ?_
    (case aR => repeat (first | exact (Kd.C_below HR228_0.out HB.out) | (with_reducible refine Kd.C_alloc ?_ _) | (with_reducible refine Kd.C_drewN ?_ _) | (with_reducible refine Kd.C_drew ?_)))
    (case aB => exact (wZ HB))
    (case aF => exact (fun k_ hk => Kd.fresh' (Kd.R_lt (rS HO_228001)) k_ hk))
    (case aO => exact (by (repeat apply Kd.RS); exact Kd.R_mono HO231.out (fun _ hk => hk.2)))
    (case aS => exact (below_size (wZ HB)))
    (case aL => have := LMc22.out; omega)
    intro v233 w27 ho hb hg hat
    rw [← Ny232.out] at ho
    replace HO_228001 := Asd.mk (Kd.R_after (ok := (fun _ => True)) (rS HO_228001) hg hat)
    replace HO_228002 := Asd.mk (Kd.S_after (ok := (fun k_ => some k_ ≠ (.slice Ao12 y224.length co12 : Value).ownBlock)) (sS HO_228002) hg hat)
    replace BK219 := bN BK219 hg (Kd.R_ne HO231.out BK219.out (by decide))
    replace BK220 := bN BK220 hg (Kd.R_ne HO231.out BK220.out (by decide))
    replace BK227 := bN BK227 hg (Kd.R_ne HO231.out BK227.out (by decide))
    replace HB := Asd.mk (hb)
    have HO234 := Asd.mk (ho)
    clear HO231 ho hb hg hat
    obtain ⟨Ao29, co29, eo29⟩ := Kd.R_slice HO234.out
    (first | subst eo29 | (injection eo29 with f1_ f2_ f3_; have f4_ := f1_.symm; have f5_ := f3_.symm; clear f1_ f2_ f3_; subst f4_; subst f5_))
    refine hK.out _ _ ⟨(bkC BK227.out 0).trans rfl, (bkC BK227.out 1).trans rfl, (bkC BK227.out 2).trans rfl⟩ (fun hHeld => ?_)
    clear hK K
    refine norm_ (a' := ?_) ?_ ?_
    rotate_left
    ·show Act.put _ (some 24) _ = _
     simp only [Act.put, qA, qB, qC, i64_w, i32_w]
     rfl
    refine one_ (i := 5) (N := some 25) Mk8_6 rfl rfl (one_of HT_.out (by kernel_rfl)) (by decide) (fun K hK => ?_)
    refine value_ (w1 := ?_) (v := ?_) (by rfl) rfl ?_ ?_
    rotate_left 2
    ·go_simp
     constructor
     ·rfl
     ·rfl
    refine hK.out _ _ ⟨(bkC (bkA BK227.out _) 0).trans rfl, (bkC (bkA BK227.out _) 1).trans rfl, (bkC (bkA BK227.out _) 2).trans rfl⟩ (fun hHeld => ?_)
    clear hK K
    refine norm_ (a' := ?_) ?_ ?_
    rotate_left
    ·show Act.put _ (some 25) _ = _
     simp only [Act.put, qA, qB, qC, i64_w, i32_w]
     rfl
    refine one_ (i := 6) (N := some 26) Mk8_8 rfl rfl (one_of HT_.out (by kernel_rfl)) (by decide) (fun K hK => ?_)
    refine Kd.S_append_step (Kd.slice 3 (Kd.int .i64)) (w0 := w) w.heap.size (by rfl) (.tmp 21) (.tmp 25) 56 55 (.slice none 0 0) 24 rfl Try.underlying56 info55 rfl (by decide) (by omega) u228002 x228002_1 y232 [.slice Ao29 y232.length co29] (fun k_ => some k_ ≠ (.slice Ao12 y224.length co12 : Value).ownBlock) (fun k_ => some k_ = (.slice Ao29 y232.length co29 : Value).ownBlock) rfl rfl ?aP (fun k_ hk_ => ((Kd.R_mono (ok' := fun k_ => ((fun k_ => some k_ ≠ (.slice Ao12 y224.length co12 : Value).ownBlock)) k_ ∧ some k_ ≠ (u228002 : Value).ownBlock) (Kd.R_apart' (HO234.out) (Kd.S_typed HO_228002.out) (by decide)) (fun k_ hk => ⟨hk.1, hk.2⟩))).1 k_ hk_.symm) ?aF ?aO ?aB ?aS ?aL ?_
    (case aP => exact Kd.M_row (Kd.R_mono (Kd.R_tight rfl (Kd.R_mono (ok' := fun k_ => ((fun k_ => some k_ ≠ (.slice Ao12 y224.length co12 : Value).ownBlock)) k_ ∧ some k_ ≠ (u228002 : Value).ownBlock) (Kd.R_apart' (HO234.out) (Kd.S_typed HO_228002.out) (by decide)) (fun k_ hk => ⟨hk.1, hk.2⟩))) (fun _ h_ => h_)))
    (case aB => exact (wZ HB))
    (case aF => exact (fun k_ hk => Kd.fresh' (Kd.R_lt (rS HO_228001)) k_ hk))
    (case aO => exact (by (repeat apply Kd.SS); exact Kd.S_mono HO_228002.out (fun k_ hk => ⟨hk.1, fun e_ => hk.2 e_⟩)))
    (case aS => exact (below_size (wZ HB)))
    (case aL => have := LMc23.out; omega)
    intro v236 w28 ho hb hg hat
    rw [← Ny235.out] at ho
    replace HO_228001 := Asd.mk (Kd.R_over' (rS HO_228001) (Kd.S_typed (sS HO_228002)) (by decide) hg)
    replace BK219 := bN BK219 hg (Kd.S_ne HO_228002.out BK219.out (by decide))
    replace BK220 := bN BK220 hg (Kd.S_ne HO_228002.out BK220.out (by decide))
    replace BK227 := bN BK227 hg (Kd.S_ne HO_228002.out BK227.out (by decide))
    replace HB := Asd.mk (hb)
    have HO237 := Asd.mk (ho)
    clear HO_228002 HO234 ho hb hg hat
    obtain ⟨Ao30, co30, eo30⟩ := Kd.S_slice HO237.out
    (first | subst eo30 | (injection eo30 with f1_ f2_ f3_; have f4_ := f1_.symm; have f5_ := f3_.symm; clear f1_ f2_ f3_; subst f4_; subst f5_))
    refine hK.out _ _ ⟨(bkC BK227.out 0).trans rfl, (bkC BK227.out 1).trans rfl, (bkC BK227.out 2).trans rfl⟩ (fun hHeld => ?_)
    clear hK K
    refine norm_ (a' := ?_) ?_ ?_
    rotate_left
    ·show Act.put _ (some 26) _ = _
     simp only [Act.put, qA, qB, qC, i64_w, i32_w]
     rfl
    refine pure_ (i := 7) (N := some 27) (v := ?_) (a' := ?_) Mk8_9 rfl rfl (any_of HT_.out (by kernel_rfl)) (fun _ _ _ h => h) (Or.inl ⟨by rfl, ?_⟩) ?_ ?_
    rotate_left
    ·intro w'
     go_simp
     with_reducible rfl
    rotate_left
    ·simp only [Act.put, qA, qB, qC, i64_w, i32_w]
     rfl
    refine last_ (i := 8) (N := none) Mk8_10 rfl rfl (one_of HT_.out (by kernel_rfl)) (by decide) (fun K hK => ?_)
    have hs31 := bC BK227 2
    have hfs31 := bkF BK227.out 2
    have hns31_0 := NB219_227.out
    have hns31_1 := NB220_227.out
    have hms31_0 := NB227_219.out
    have hms31_1 := NB227_220.out
    refine skip_ (w1 := ?_) (by rfl) rfl ?_ ?_
    rotate_left
    ·go_simp
     rfl
    refine hK.out _ _ ?_
    clear hK K
    refine done_ (done_of HT_.out (by kernel_rfl)) ?_
    try go_wp2
    go_roundg k1
    case measure => have := HK1.out; omega
    case rel => exact ⟨(wrap64 (x16_1 + 1)), (y235), (.slice Ao30 y235.length co30), (by first | rfl | (simp; done) | (simp [*]; done)), H', ⟨by have := HK1.out; omega⟩, ⟨rT HO_228001⟩, ⟨sT HO237⟩, ⟨kS BK219⟩, ⟨kS BK220⟩, ⟨kP BK227⟩, ⟨wZ HB⟩⟩
   ·rw [if_neg c19] at H
    have c19b0 : decide (x16_1 < (l0_2.length : Int)) = false := decide_eq_false c19
    clear c19
    simp only [Option.some.injEq, Prod.mk.injEq] at H
    obtain ⟨rfl, rfl, rfl⟩ := H
    have hnb32 := NB227_219.out
    have hnc32 := NB219_227.out
    have hnb33 := NB227_220.out
    have hnc33 := NB220_227.out
    obtain ⟨hcz34_0, hcz34_1, hcz34_2, hfz34_0, hfz34_1, hfz34_2⟩ := b3 BK227
    have hnb35 := NB220_219.out
    have hnc35 := NB219_220.out
    obtain ⟨hcz36_0, hcz36_1, hcz36_2, hfz36_0, hfz36_1, hfz36_2⟩ := b3 BK220
    obtain ⟨Ao37, co37, eo37⟩ := Kd.S_slice HO_228002.out
    subst eo37
    go_wp2
    refine bodyPost_ret (results_cell_row rfl _ _ gb220 58 #[.int .i64 a0_0, .slice Ao12 y224.length co12, .slice Ao37 x228002_1.length co37] (0, 0) _ rfl (kP BK220) Try.underlying58 rfl (by kernel_rfl)) rfl ?_
    exact ⟨_, _, by first | rfl | (simp [*, errW_none, errW_some] <;> rfl), rT HO_228001, sT HO_228002, wZ HB⟩

/-! ### impl_surpriseOf: function 166 -/
def impl_surpriseOf.l0 : Nat → Int → Int → List Int → Int → Int → Option (Int)
 | 0, _, _, _, _, _ => none
 | k + 1, x1, x5, x8, x9, x10 => if x10 < x9 then (if 0 ≤ x10 then (if x10 < (x8.length : Int) then (if (Go.bits .and .i64 (shr .i64 x1 x10) 1) = 1 then (impl_surpriseOf.l0 k x1 (mn x5 (rd x8 x10)) x8 x9 (wrap64 (x10 + 1))) else (impl_surpriseOf.l0 k x1 x5 x8 x9 (wrap64 (x10 + 1)))) else (none)) else (none)) else (some x5)
def impl_surpriseOf.f (k : Nat) (l0 : List Int) (a1 : Int) : Option (Int) := impl_surpriseOf.l0 k a1 10 l0 (l0.length : Int) 0
theorem impl_surpriseOf.mono_l : ∀ k, (∀ y0 y1 y2 y3 y4, LeO (impl_surpriseOf.l0 k y0 y1 y2 y3 y4) (impl_surpriseOf.l0 (k + 1) y0 y1 y2 y3 y4))
 | 0 => fun _ _ _ _ _ r h => by simp [impl_surpriseOf.l0] at h
 | k + 1 => by
  have ih0 := impl_surpriseOf.mono_l k
  ·intro y0 y1 y2 y3 y4
   unfold impl_surpriseOf.l0
   repeat' first
   | (with_reducible first | exact ih0 _ _ _ _ _ | exact LeO.refl _ | exact LeO.none _ | refine LeO.ite ?_ ?_ | refine LeO.bind ?_ (fun _ => ?_))
   | refine LeO.ite ?_ ?_
   | refine LeO.bind ?_ (fun _ => ?_)
theorem impl_surpriseOf.mono : ∀ a0 a1 k, LeO (impl_surpriseOf.f k a0 a1) (impl_surpriseOf.f (k + 1) a0 a1) := by
 intro a0 a1 k
 have ih0 := impl_surpriseOf.mono_l k
 unfold impl_surpriseOf.f
 repeat' first
   | (with_reducible first | exact ih0 _ _ _ _ _ | exact LeO.refl _ | exact LeO.none _ | refine LeO.ite ?_ ?_ | refine LeO.bind ?_ (fun _ => ?_))
   | refine LeO.ite ?_ ?_
   | refine LeO.bind ?_ (fun _ => ?_)
set_option maxHeartbeats 8000000 in
set_option maxRecDepth 100000 in
theorem impl_surpriseOf.calls (k : Nat) (A0 : Option Addr) (c0 : Nat) (l0 : List Int) (a1 : Int) (r : Int) (w : World) (hr0 : Kd.C (Kd.int .i64) w A0 l0.length l0) (hc0 : l0.length ≤ c0) (h : impl_surpriseOf.f k l0 a1 = some r) :
  Calls Try.prog 166 #[.slice A0 l0.length c0, .int .i64 a1] w fun e w' => e = .returned (.int .i64 r) ∧ Below w.heap.size w w' := by
 have HR0 := Asd.mk hr0
 have HC0 := Asd.mk hc0
 clear hr0 hc0
 have HB := Asd.mk (Below.refl w.heap.size w)
 have H : (impl_surpriseOf.l0 k a1 10 l0 (l0.length : Int) 0) = some r := h
 clear h
 have H' := Asd.mk H
 clear H
 go_enter Try.func166, Try.ntmps166
 go_wp2
 go_loopg [5, 10] k (fun kq v5 v10 w' => ∃ (x5_1 : Int) (x10_1 : Int), v5 = .int .i64 x5_1 ∧ v10 = .int .i64 x10_1 ∧ Asd (impl_surpriseOf.l0 kq a1 x5_1 l0 (l0.length : Int) x10_1 = some r) ∧ Asd (kq ≤ k) ∧ Asd (Below w.heap.size w w'))
 case atStart => exact ⟨(10), (0), (by first | rfl | (simp; done) | (simp [*]; done)), (by first | rfl | (simp; done) | (simp [*]; done)), H', ⟨Nat.le_refl _⟩, ⟨wZ HB⟩⟩
 case round =>
  clear H'
  obtain ⟨x5_1, x10_1, rfl, rfl, HA, HK1, HB⟩ := hrel
  cases gk with
  | zero => exact absurd HA.out (by simp [impl_surpriseOf.l0])
  | succ k1 =>
   have H := HA.out
   clear HA
   simp only [impl_surpriseOf.l0] at H
   by_cases c3 : x10_1 < (l0.length : Int)
   ·rw [if_pos c3] at H
    have c3b0 : decide (x10_1 < (l0.length : Int)) = true := decide_eq_true c3
    clear c3
    by_cases c4 : 0 ≤ x10_1; rotate_left; (rw [if_neg c4] at H; exact absurd H (by simp))
    rw [if_pos c4] at H
    have c4b0 : decide (0 ≤ x10_1) = true := decide_eq_true c4
    clear c4
    by_cases c5 : x10_1 < (l0.length : Int); rotate_left; (rw [if_neg c5] at H; exact absurd H (by simp))
    rw [if_pos c5] at H
    have c5b0 : decide (x10_1 < (l0.length : Int)) = true := decide_eq_true c5
    clear c5
    have c6b0 := eq_true (odt : 0 ≤ x10_1)
    obtain ⟨ji7, hji7⟩ : ∃ j_ : Int, (shr .i64 a1 x10_1) = j_ := ⟨_, rfl⟩
    replace H : (if (Go.bits .and .i64 (ji7) 1) = 1 then (impl_surpriseOf.l0 k1 a1 (mn x5_1 (rd l0 x10_1)) l0 (l0.length : Int) (wrap64 (x10_1 + 1))) else (impl_surpriseOf.l0 k1 a1 x5_1 l0 (l0.length : Int) (wrap64 (x10_1 + 1)))) = some r := by first | (rw [hji7] at H; exact H) | (simp only [hji7] at H ⊢; exact H)
    have hji7_ : (a1 / 2 ^ min x10_1.toNat 64) = ji7 := hji7
    have hji7z : x10_1 ≤ 64 → (a1 / 2 ^ x10_1.toNat) = ji7 := shr_small hji7
    by_cases c8 : (Go.bits .and .i64 (ji7) 1) = 1
    ·rw [if_pos c8] at H
     have c8b0 : ((Go.bits .and .i64 (ji7) 1) == 1) = true := beq_iff_eq.mpr c8
     have c8b1 : ((Go.bits .and .i64 (ji7) 1) != 1) = false := bne_eq_false_iff_eq.mpr c8
     clear c8
     obtain ⟨ji9, hji9⟩ : ∃ j_ : Int, (mn x5_1 (rd l0 x10_1)) = j_ := ⟨_, rfl⟩
     replace H : (impl_surpriseOf.l0 k1 a1 ji9 l0 (l0.length : Int) (wrap64 (x10_1 + 1))) = some r := by first | (rw [hji9] at H; exact H) | (simp only [hji9] at H ⊢; exact H)
     have hji9_ : (if (rd l0 x10_1) < x5_1 then (rd l0 x10_1) else x5_1) = ji9 := hji9
     have H' := Asd.mk H
     clear H
     have p238 : 0 ≤ (x10_1 : Int) := odt
     have q238 : x10_1 < (l0.length : Int) := odt
     obtain ⟨ad238, e238, hx238_0⟩ := Kd.at_int HR0.out x10_1 p238 q238
     cases e238
     replace hx238_0 := (HB.out.cell (World.block_lt_of_cell? w _ hx238_0)).trans hx238_0
     replace p238 := eq_true p238
     replace q238 := eq_true q238
     go_wp2
     go_roundg k1
     case measure => have := HK1.out; omega
     case rel => exact ⟨(ji9), (wrap64 (x10_1 + 1)), (by first | rfl | (simp; done) | (simp only [← hji9] <;> (first | rfl | simp)) | (simp [*]; done)), (by first | rfl | (simp; done) | (simp [*]; done)), H', ⟨by have := HK1.out; omega⟩, ⟨wZ HB⟩⟩
    ·rw [if_neg c8] at H
     have c8b0 : ((Go.bits .and .i64 (ji7) 1) == 1) = false := beq_eq_false_iff_ne.mpr c8
     have c8b1 : ((Go.bits .and .i64 (ji7) 1) != 1) = true := bne_iff_ne.mpr c8
     have H' := Asd.mk H
     clear H
     have p238 : 0 ≤ (x10_1 : Int) := odt
     have q238 : x10_1 < (l0.length : Int) := odt
     obtain ⟨ad238, e238, hx238_0⟩ := Kd.at_int HR0.out x10_1 p238 q238
     cases e238
     replace hx238_0 := (HB.out.cell (World.block_lt_of_cell? w _ hx238_0)).trans hx238_0
     replace p238 := eq_true p238
     replace q238 := eq_true q238
     go_wp2
     go_roundg k1
     case measure => have := HK1.out; omega
     case rel => exact ⟨(x5_1), (wrap64 (x10_1 + 1)), (by first | rfl | (simp; done) | (simp [*]; done)), (by first | rfl | (simp; done) | (simp [*]; done)), H', ⟨by have := HK1.out; omega⟩, ⟨wZ HB⟩⟩
   ·rw [if_neg c3] at H
    have c3b0 : decide (x10_1 < (l0.length : Int)) = false := decide_eq_false c3
    clear c3
    obtain rfl := Option.some.inj H
    go_wp2
    go_ret
    exact ⟨by first | rfl | (simp [*, errW_none, errW_some] <;> rfl), wZ HB⟩

/-! ### impl_revisedBy: function 148 (by hand) -/
def impl_revisedBy.p (l1 : List Int) (least x : Int) : Option Bool := if 0 ≤ x then (if x < (l1.length : Int) then some (decide (rd l1 x = least)) else none) else none
def impl_revisedBy.f (k : Nat) (a0 : Int) (l1 : List Int) (a2 : Int) : Option Int := (impl_surpriseOf.f k l1 a2).bind fun s => (impl_setThat.f (impl_revisedBy.p l1 s) a0).bind fun t => some (Go.bits .and .i64 a2 t)
theorem impl_revisedBy.mono : ∀ a0 a1 a2 k, LeO (impl_revisedBy.f k a0 a1 a2) (impl_revisedBy.f (k + 1) a0 a1 a2) := by
 intro a0 a1 a2 k
 unfold impl_revisedBy.f
 exact LeO.bind (impl_surpriseOf.mono _ _ _) (fun b => LeO.refl _)
set_option maxHeartbeats 2000000 in
theorem impl_revisedBy.gives (w : World) (B C : Nat) (A1 : Option Addr) (c1 : Nat) (l1 : List Int) (s : Int) (hr1 : Kd.C (Kd.int .i64) w A1 l1.length l1) (hB : B < w.heap.size) (hC : C < w.heap.size)
  (hd : w.cell? ⟨B, 0, none⟩ = some (.slice A1 l1.length c1)) (he : w.cell? ⟨C, 0, none⟩ = some (.int .i64 s)) :
  Hof.GivesI 167 #[.pointer (some ⟨B, 0, none⟩), .pointer (some ⟨C, 0, none⟩)] (impl_revisedBy.p l1 s) w := fun W x b hb hp => by
 have hd' := (hb.cell (p := ⟨B, 0, none⟩) hB).trans hd
 have he' := (hb.cell (p := ⟨C, 0, none⟩) hC).trans he
 have HBB := Asd.mk (Below.refl W.heap.size W)
 have HR := Asd.mk (Kd.C_below hr1 hb)
 clear hd he hb hr1 hB hC
 unfold impl_revisedBy.p at hp
 by_cases h0 : 0 ≤ x
 ·rw [if_pos h0] at hp
  by_cases h1 : x < (l1.length : Int)
  ·rw [if_pos h1] at hp
   obtain rfl := Option.some.inj hp
   obtain ⟨ad, e, hx⟩ := Kd.at_int HR.out x h0 h1
   cases e
   clear hp
   have p0 := eq_true h0
   have p1 := eq_true h1
   have p0b : decide (0 ≤ x) = true := decide_eq_true h0
   have p1b : decide (x < (l1.length : Int)) = true := decide_eq_true h1
   clear h0 h1
   by_cases hg : rd l1 x = s
   ·have hg0 : (rd l1 x == s) = true := beq_iff_eq.mpr hg
    have hg1 : decide (rd l1 x = s) = true := decide_eq_true hg
    clear hg
    go_enter Try.func167, Try.ntmps167
    go_wp2
    repeat (go_quiet (fail); try go_wp2)
    go_ret
    exact ⟨by rw [hg1]; rfl, wZ HBB⟩
   ·have hg0 : (rd l1 x == s) = false := beq_eq_false_iff_ne.mpr hg
    have hg1 : decide (rd l1 x = s) = false := decide_eq_false hg
    clear hg
    go_enter Try.func167, Try.ntmps167
    go_wp2
    repeat (go_quiet (fail); try go_wp2)
    go_ret
    exact ⟨by rw [hg1]; rfl, wZ HBB⟩
  ·rw [if_neg h1] at hp
   cases hp
 ·rw [if_neg h0] at hp
  cases hp
set_option maxHeartbeats 4000000 in
theorem impl_revisedBy.calls (k : Nat) (a0 : Int) (A1 : Option Addr) (c1 : Nat) (l1 : List Int) (a2 : Int) (r : Int) (w : World) (hr1 : Kd.C (Kd.int .i64) w A1 l1.length l1) (hc1 : l1.length ≤ c1) (h : impl_revisedBy.f k a0 l1 a2 = some r) :
  Calls Try.prog 148 #[.int .i64 a0, .slice A1 l1.length c1, .int .i64 a2] w fun e w' => e = .returned (.int .i64 r) ∧ Below w.heap.size w w' := by
 have HR := Asd.mk hr1
 have HC1 := Asd.mk hc1
 have HB := Asd.mk (Below.refl w.heap.size w)
 unfold impl_revisedBy.f at h
 clear hr1 hc1
 obtain ⟨s, hs, h⟩ := Option.bind_eq_some_iff.mp h
 obtain ⟨t, ht, h⟩ := Option.bind_eq_some_iff.mp h
 obtain rfl := Option.some.inj h
 have HS := Asd.mk (fun W hR => impl_surpriseOf.calls k A1 c1 l1 a2 s W hR HC1.out hs)
 have HT := Asd.mk (fun C W hg => impl_setThat.calls 167 #[.pointer (some ⟨w.heap.size, 0, none⟩), .pointer (some ⟨C, 0, none⟩)] (Hof.enters Try.func167 (by kernel_rfl) rfl) (impl_revisedBy.p l1 s) a0 t W hg ht)
 clear h hs ht
 have HW := Asd.mk (bwA HB.out (.cells #[.slice A1 l1.length c1] 55))
 go_enter Try.func148, Try.ntmps148
 go_wp2_with fail
 refine (HS.out _ (Kd.C_below HR.out HW.out)).mono ?_
 rintro e w2 ⟨rfl, hb2⟩
 have c1' : w2.cell? ⟨w.heap.size, 0, none⟩ = some (.slice A1 l1.length c1) := (hb2.cell (p := ⟨w.heap.size, 0, none⟩) (by simp)).trans (by simp)
 have HS2 : Asd (w.heap.size < w2.heap.size) := ⟨Nat.lt_of_lt_of_le (by simp) hb2.size⟩
 have HB2 := Asd.mk (below_then HW.out HW.out.size hb2)
 clear hb2
 have HB3 := fun (u : Value) => Asd.mk (bwA HB2.out (.cells #[u] 3))
 go_wp2_with fail
 refine (HT.out w2.heap.size _ (impl_revisedBy.gives _ w.heap.size w2.heap.size A1 c1 l1 s (Kd.C_below HR.out (HB3 _).out) (by have := HS2.out; simp; omega) (by simp) ?cx (by simp))).mono ?_
 case cx => have := HS2.out; exact (World.cell?_alloc_past _ _ _ this).trans c1'
 rintro e w3 ⟨rfl, hb3⟩
 go_wp2
 go_ret
 exact ⟨rfl, below_then (HB3 _).out (HB3 _).out.size hb3⟩

end Go.Proofs.Ytihgpkohglcijaa.P
