-- Written by a program of this session (wip/hook.py), which runs the kit's printer; Lean checks it.
import Derived.Test.YtihgpkohglcijaaPx0
import Derived.Test.YtihgpkohglcijaaPx1
import Derived.Test.YtihgpkohglcijaaPx2
import Derived.Test.YtihgpkohglcijaaPx3
import Derived.Test.YtihgpkohglcijaaPx5
import Derived.Test.YtihgpkohglcijaaPx13
namespace Go.Proofs.Ytihgpkohglcijaa.P
open Go.RowKit Go.Proofs.YtihgpkohglcijaaW.PrintWords Go.Proofs.YtihgpkohglcijaaW.PrintLast Go.Proofs.YtihgpkohglcijaaW.PrintMore
attribute [local go_sem] max2_int min2_int max_two min_two max_three min_three max_four min_four   -- for this text's walks alone
set_option linter.unusedVariables false
set_option linter.unusedSimpArgs false

attribute [local go_sem high] eqA26
/-! ### spec_l20Spoil: function 96 -/
def spec_l20Spoil.f (k : Nat) (s0_0 : List Int) (s0_1 : Int) (a1 : ByteArray) : Option (ByteArray × Int) := if (a1.size : Int) = 0 then (some ((⟨#[10]⟩ : ByteArray), s0_1)) else ((spec_l20Rd_pick.f k s0_0 s0_1 (a1.size : Int)).bind fun bt419 => (if 0 ≤ bt419.1 then (if bt419.1 ≤ (a1.size : Int) then ((some (([(⟨#[]⟩ : ByteArray), (⟨#[97]⟩ : ByteArray), (⟨#[32]⟩ : ByteArray), (⟨#[10]⟩ : ByteArray), (⟨#[40]⟩ : ByteArray), (⟨#[98, 97, 99, 107]⟩ : ByteArray)] : List ByteArray) : List ByteArray)).bind fun y421 => ((spec_l20Rd_pick.f k s0_0 bt419.2 6).bind fun bt424 => (if 0 ≤ bt424.1 then (if bt424.1 < (y421.length : Int) then (if (a1.extract 0 (bt419.1 : Int).toNat).size + (rdOf ByteArray.empty y421 bt424.1).size ≤ 9223372036854775807 then (if 0 ≤ (wrap64 (bt419.1 + 1)) then (if (wrap64 (bt419.1 + 1)) ≤ (a1.size : Int) then (if ((a1.extract 0 (bt419.1 : Int).toNat) ++ (rdOf ByteArray.empty y421 bt424.1)).size + (a1.extract ((wrap64 (bt419.1 + 1)) : Int).toNat a1.size).size ≤ 9223372036854775807 then (some (((a1.extract 0 (bt419.1 : Int).toNat) ++ (rdOf ByteArray.empty y421 bt424.1)) ++ (a1.extract ((wrap64 (bt419.1 + 1)) : Int).toNat a1.size), bt424.2)) else (none)) else (none)) else (none)) else (none)) else (none)) else (none)))) else (none)) else (none)))
theorem spec_l20Spoil.mono : ∀ a0 a1 a2 k, LeO (spec_l20Spoil.f k a0 a1 a2) (spec_l20Spoil.f (k + 1) a0 a1 a2) := by
 intro a0 a1 a2 k
 unfold spec_l20Spoil.f
 repeat' first
   | (with_reducible exact spec_l20Rd_pick.mono _ _ _ _)
   | (with_reducible exact LeO.refl _)
   | (with_reducible exact LeO.none _)
   | (with_reducible refine LeO.ite ?_ ?_)
   | (with_reducible refine LeO.bind ?_ (fun _ => ?_))
   | refine LeO.ite ?_ ?_
   | refine LeO.bind ?_ (fun _ => ?_)
def spec_l20Spoil.T4 : Bool × List (List Nat × List Nat) := (true, [([], []), ([], []), ([0, 1], [0, 1]), ([], []), ([], []), ([4], [4]), ([3, 5], [3, 5]), ([6], [6]), ([2, 7], [2, 7]), ([], []), ([], []), ([10], [10]), ([9, 11], [9, 11]), ([8, 12], [8, 12]), ([13, 5, 0, 1, 2, 3, 4, 5, 6, 7, 8, 9, 10, 11, 12, 13], [13])])
def spec_l20Spoil.B4 : List Nat := [0, 0, 3, 0, 0, 16, 56, 120, 255, 0, 0, 1024, 3584, 8191, 16383]
theorem spec_l20Spoil.tab4 : rtab .any (opsOf Try.f96 4) = spec_l20Spoil.T4 := by kernel_rfl
theorem spec_l20Spoil.bits4 : waitsOk spec_l20Spoil.T4.2 spec_l20Spoil.B4 = true := by kernel_rfl
set_option maxHeartbeats 8000000 in
set_option maxRecDepth 100000 in
theorem spec_l20Spoil.calls (k : Nat) (g : Nat) (s0_0 : List Int) (s0_1 : Int) (a1 : ByteArray) (r1 : ByteArray) (r2 : Int) (w0 w : World) (hI : Iz w0 w g s0_0 s0_1) (hB : Below w0.heap.size w0 w) (h : spec_l20Spoil.f k s0_0 s0_1 a1 = some (r1, r2)) :
  Calls Try.prog 96 #[.pointer (some ⟨g, 0, none⟩), .string a1] w fun e w' => e = .returned (.string r1) ∧ Iz w0 w' g s0_0 r2 ∧ Below w0.heap.size w0 w' ∧ Kbt w w' g none := by
 have HI0 := Asd.mk hI
 have HK := Asd.mk (Kbt.refl w g none)
 have HL := Asd.mk hB.size
 clear hI
 have HW0 := Asd.mk hB.size
 have HB := Asd.mk hB
 clear hB
 have H : (if (a1.size : Int) = 0 then (some ((⟨#[10]⟩ : ByteArray), s0_1)) else ((spec_l20Rd_pick.f k s0_0 s0_1 (a1.size : Int)).bind fun bt419 => (if 0 ≤ bt419.1 then (if bt419.1 ≤ (a1.size : Int) then ((some (([(⟨#[]⟩ : ByteArray), (⟨#[97]⟩ : ByteArray), (⟨#[32]⟩ : ByteArray), (⟨#[10]⟩ : ByteArray), (⟨#[40]⟩ : ByteArray), (⟨#[98, 97, 99, 107]⟩ : ByteArray)] : List ByteArray) : List ByteArray)).bind fun y421 => ((spec_l20Rd_pick.f k s0_0 bt419.2 6).bind fun bt424 => (if 0 ≤ bt424.1 then (if bt424.1 < (y421.length : Int) then (if (a1.extract 0 (bt419.1 : Int).toNat).size + (rdOf ByteArray.empty y421 bt424.1).size ≤ 9223372036854775807 then (if 0 ≤ (wrap64 (bt419.1 + 1)) then (if (wrap64 (bt419.1 + 1)) ≤ (a1.size : Int) then (if ((a1.extract 0 (bt419.1 : Int).toNat) ++ (rdOf ByteArray.empty y421 bt424.1)).size + (a1.extract ((wrap64 (bt419.1 + 1)) : Int).toNat a1.size).size ≤ 9223372036854775807 then (some (((a1.extract 0 (bt419.1 : Int).toNat) ++ (rdOf ByteArray.empty y421 bt424.1)) ++ (a1.extract ((wrap64 (bt419.1 + 1)) : Int).toNat a1.size), bt424.2)) else (none)) else (none)) else (none)) else (none)) else (none)) else (none)))) else (none)) else (none)))) = some (r1, r2) := h
 clear h
 by_cases c3 : (a1.size : Int) = 0
 ·rw [if_pos c3] at H
  have c3b0 : ((a1.size : Int) == 0) = true := beq_iff_eq.mpr c3
  have c3b1 : ((a1.size : Int) != 0) = false := bne_eq_false_iff_eq.mpr c3
  clear c3
  simp only [Option.some.injEq, Prod.mk.injEq] at H
  obtain ⟨rfl, rfl⟩ := H
  go_enter Try.func96, Try.ntmps96
  go_wp2
  go_ret
  exact ⟨by first | rfl | (simp [*, errW_none, errW_some] <;> rfl), by repeat (with_reducible first | exact HI0.out | refine Iz.below ?_ StB.b | apply Iz.set_1), by repeat (with_reducible first | exact HB.out | apply bwX | refine bwS ?_ (Iz.ge HI0.out)), by repeat (with_reducible first | exact HK.out | apply Kbt.set_ | apply kpX)⟩
 ·rw [if_neg c3] at H
  have c3b0 : ((a1.size : Int) == 0) = false := beq_eq_false_iff_ne.mpr c3
  have c3b1 : ((a1.size : Int) != 0) = true := bne_iff_ne.mpr c3
  replace H := Option.bind_eq_some_iff.mp H
  obtain ⟨⟨t419, t420⟩, A40, H⟩ := H
  try dsimp only at H
  have A4 := Asd.mk A40
  clear A40
  by_cases c5 : 0 ≤ t419; rotate_left; (rw [if_neg c5] at H; exact absurd H (by simp))
  rw [if_pos c5] at H
  have c5b0 := eq_true c5
  have c5b1 : decide (0 ≤ t419) = true := decide_eq_true c5
  clear c5
  by_cases c6 : t419 ≤ (a1.size : Int); rotate_left; (rw [if_neg c6] at H; exact absurd H (by simp))
  rw [if_pos c6] at H
  have c6b0 := eq_true c6
  have c6b1 : decide (t419 ≤ (a1.size : Int)) = true := decide_eq_true c6
  clear c6
  obtain ⟨y421, hy421⟩ : ∃ y_ : List ByteArray, y_ = (([(⟨#[]⟩ : ByteArray), (⟨#[97]⟩ : ByteArray), (⟨#[32]⟩ : ByteArray), (⟨#[10]⟩ : ByteArray), (⟨#[40]⟩ : ByteArray), (⟨#[98, 97, 99, 107]⟩ : ByteArray)] : List ByteArray)) := ⟨_, rfl⟩
  replace H : ((spec_l20Rd_pick.f k s0_0 t420 6).bind fun bt424 => (if 0 ≤ bt424.1 then (if bt424.1 < (y421.length : Int) then (if (a1.extract 0 (t419 : Int).toNat).size + (rdOf ByteArray.empty y421 bt424.1).size ≤ 9223372036854775807 then (if 0 ≤ (wrap64 (t419 + 1)) then (if (wrap64 (t419 + 1)) ≤ (a1.size : Int) then (if ((a1.extract 0 (t419 : Int).toNat) ++ (rdOf ByteArray.empty y421 bt424.1)).size + (a1.extract ((wrap64 (t419 + 1)) : Int).toNat a1.size).size ≤ 9223372036854775807 then (some (((a1.extract 0 (t419 : Int).toNat) ++ (rdOf ByteArray.empty y421 bt424.1)) ++ (a1.extract ((wrap64 (t419 + 1)) : Int).toNat a1.size), bt424.2)) else (none)) else (none)) else (none)) else (none)) else (none)) else (none))) = some (r1, r2) := by first | (rw [hy421]; with_reducible exact H) | (have H2_ := (Option.bind_some _ _).symm.trans H; rw [hy421]; with_reducible exact H2_) | (have H2_ := (Option.bind_some _ _).symm.trans H; with_reducible exact H2_) | with_reducible exact H | (rw [hy421]; exact H) | exact H
  have Ny421 := Asd.mk hy421
  clear hy421
  replace H := Option.bind_eq_some_iff.mp H
  obtain ⟨⟨t424, t425⟩, A70, H⟩ := H
  try dsimp only at H
  have A7 := Asd.mk A70
  clear A70
  by_cases c8 : 0 ≤ t424; rotate_left; (rw [if_neg c8] at H; exact absurd H (by simp))
  rw [if_pos c8] at H
  have c8b0 : decide (0 ≤ t424) = true := decide_eq_true c8
  clear c8
  by_cases c9 : t424 < (y421.length : Int); rotate_left; (rw [if_neg c9] at H; exact absurd H (by simp))
  rw [if_pos c9] at H
  have c9b0 : decide (t424 < (y421.length : Int)) = true := decide_eq_true c9
  clear c9
  by_cases c10 : (a1.extract 0 (t419 : Int).toNat).size + (rdOf ByteArray.empty y421 t424).size ≤ 9223372036854775807; rotate_left; (rw [if_neg c10] at H; exact absurd H (by simp))
  rw [if_pos c10] at H
  have c10b0 := eq_true c10
  have c10b1 : decide ((a1.extract 0 (t419 : Int).toNat).size + (rdOf ByteArray.empty y421 t424).size ≤ 9223372036854775807) = true := decide_eq_true c10
  try have c10b2 : (9223372036854775807 < (a1.extract 0 (t419 : Int).toNat).size + (rdOf ByteArray.empty y421 t424).size) = False := eq_false (Nat.not_lt.2 c10)
  try have c10b7 : (t419.toNat + (rdOf ByteArray.empty y421 t424).size ≤ 9223372036854775807) = True := eq_true (by have h_ := c10; (try simp only [ByteArray.size_append, ByteArray.size_extract] at h_); (try have := (of_eq_true (by assumption : (t419 ≤ (a1.size : Int)) = True))); (try simp only [ByteArray.size_append] at *); omega)
  try have c10b6 : (9223372036854775807 < t419.toNat + (rdOf ByteArray.empty y421 t424).size) = False := eq_false (by have h_ := c10; (try simp only [ByteArray.size_append, ByteArray.size_extract] at h_); (try have := (of_eq_true (by assumption : (t419 ≤ (a1.size : Int)) = True))); (try simp only [ByteArray.size_append] at *); omega)
  obtain ⟨ji11, hji11⟩ : ∃ j_ : Int, (wrap64 (t419 + 1)) = j_ := ⟨_, rfl⟩
  replace H : (if 0 ≤ (ji11) then (if (ji11) ≤ (a1.size : Int) then (if ((a1.extract 0 (t419 : Int).toNat) ++ (rdOf ByteArray.empty y421 t424)).size + (a1.extract ((ji11) : Int).toNat a1.size).size ≤ 9223372036854775807 then (some (((a1.extract 0 (t419 : Int).toNat) ++ (rdOf ByteArray.empty y421 t424)) ++ (a1.extract ((ji11) : Int).toNat a1.size), t425)) else (none)) else (none)) else (none)) = some (r1, r2) := by first | (rw [hji11] at H; exact H) | (simp only [hji11] at H ⊢; exact H)
  (try rw [hji11] at A4)
  (try rw [hji11] at A7)
  have hji11w : (IntKind.i64.wrap (t419 + 1)) = ji11 := (i64_w _).trans hji11
  by_cases c12 : 0 ≤ (ji11); rotate_left; (rw [if_neg c12] at H; exact absurd H (by simp))
  rw [if_pos c12] at H
  have c12b0 := eq_true c12
  have c12b1 : decide (0 ≤ (ji11)) = true := decide_eq_true c12
  clear c12
  by_cases c13 : (ji11) ≤ (a1.size : Int); rotate_left; (rw [if_neg c13] at H; exact absurd H (by simp))
  rw [if_pos c13] at H
  have c13b0 := eq_true c13
  have c13b1 : decide ((ji11) ≤ (a1.size : Int)) = true := decide_eq_true c13
  clear c13
  by_cases c14 : ((a1.extract 0 (t419 : Int).toNat) ++ (rdOf ByteArray.empty y421 t424)).size + (a1.extract ((ji11) : Int).toNat a1.size).size ≤ 9223372036854775807; rotate_left; (rw [if_neg c14] at H; exact absurd H (by simp))
  rw [if_pos c14] at H
  have c14b0 := eq_true c14
  have c14b1 : decide (((a1.extract 0 (t419 : Int).toNat) ++ (rdOf ByteArray.empty y421 t424)).size + (a1.extract ((ji11) : Int).toNat a1.size).size ≤ 9223372036854775807) = true := decide_eq_true c14
  try have c14b2 : (9223372036854775807 < ((a1.extract 0 (t419 : Int).toNat) ++ (rdOf ByteArray.empty y421 t424)).size + (a1.extract ((ji11) : Int).toNat a1.size).size) = False := eq_false (Nat.not_lt.2 c14)
  try have c14b8 : (9223372036854775807 < (a1.extract 0 (t419 : Int).toNat).size + (rdOf ByteArray.empty y421 t424).size + (a1.extract ((ji11) : Int).toNat a1.size).size) = False := eq_false (by have h_ := c14; (repeat rw [ByteArray.size_append] at h_); exact Nat.not_lt.2 h_)
  try have c14b7 : (t419.toNat + (rdOf ByteArray.empty y421 t424).size + (a1.size - ji11.toNat) ≤ 9223372036854775807) = True := eq_true (by have h_ := c14; (try simp only [ByteArray.size_append, ByteArray.size_extract] at h_); (try have := (of_eq_true (by assumption : (ji11 ≤ (a1.size : Int)) = True))); (try have := (of_eq_true (by assumption : (t419 ≤ (a1.size : Int)) = True))); (try simp only [ByteArray.size_append] at *); omega)
  try have c14b6 : (9223372036854775807 < t419.toNat + (rdOf ByteArray.empty y421 t424).size + (a1.size - ji11.toNat)) = False := eq_false (by have h_ := c14; (try simp only [ByteArray.size_append, ByteArray.size_extract] at h_); (try have := (of_eq_true (by assumption : (ji11 ≤ (a1.size : Int)) = True))); (try have := (of_eq_true (by assumption : (t419 ≤ (a1.size : Int)) = True))); (try simp only [ByteArray.size_append] at *); omega)
  simp only [Option.some.injEq, Prod.mk.injEq] at H
  obtain ⟨rfl, rfl⟩ := H
  go_enter Try.func96, Try.ntmps96
  try go_wp2_with (first | ((with_reducible refine gate_callee (f := 82) rfl ?_); refine gsM (some 12) rfl rfl Try.func82 (by kernel_rfl) rfl #[.pointer (some ⟨g, 0, none⟩), .int .i64 (a1.size : Int)] rfl ?_; (with_reducible refine (spec_l20Rd_pick.calls k g s0_0 s0_1 (a1.size : Int) t419 t420 w0 _ ?side1 ?side2 A4.out).mono ?_); (case side1 => repeat (with_reducible first | exact HI0.out | refine Iz.below ?_ StB.b | apply Iz.set_1)); (case side2 => repeat (with_reducible first | exact HB.out | apply bwX | refine bwS ?_ (Iz.ge HI0.out))); rintro e w15 ⟨rfl, hi, hb, hk⟩; refine ⟨_, rfl, ?_⟩; have n0_ := Asd.mk (Kbt.trans (by repeat (with_reducible first | exact HK.out | apply Kbt.set_ | apply kpX)) hk (.inl rfl)); have n1_ := Asd.mk (hb); have n2_ := Asd.mk (hi); clear HK; clear HB; clear HI0; have HK := n0_; have HB := n1_; have HI0 := n2_; clear n0_ n1_ n2_; (try clear hb); (try clear hb2); (try clear hk); (try clear hi)))
  have pi426 : (0 ≤ (t424 : Int)) = True := eq_true (odt)
  have qi426 : (t424 < (y421.length : Int)) = True := eq_true (odt)
  have n0_ := Asd.mk (Iz.drew HI0.out)
  have n1_ := Asd.mk (kpD HK.out)
  have n2_ := Asd.mk (bwD HB.out)
  clear HI0
  clear HK
  clear HB
  have HI0 := n0_
  have HK := n1_
  have HB := n2_
  clear n0_ n1_ n2_
  refine start_ (n := 15) (S := fun w' => True) (ds := []) #[false, false, false, false, false, false, false, false, false, false, false, false, false, false, false] (by kernel_rfl) rfl rfl trivial (fun hHeld => ?_); refine with_tabW spec_l20Spoil.tab4 spec_l20Spoil.bits4 (fun HT_ HW_ => ?_)
  generalize w15.drew = w16 at HI0 HK HB hHeld ⊢
  refine pure_ (i := 0) (N := some 13) (v := ?_) (a' := ?_) #[true, false, false, false, false, false, false, false, false, false, false, false, false, false, false] rfl rfl (any_of HT_.out (by kernel_rfl)) (fun _ _ _ h => h) (Or.inl ⟨by rfl, ?_⟩) ?_ ?_
  rotate_left
  ·intro w'
   go_simp
   with_reducible rfl
  rotate_left
  ·simp only [Act.put, qA, qB, qC, i64_w, i32_w]
   rfl
  refine pure_ (i := 1) (N := some 14) (v := ?_) (a' := ?_) #[true, true, false, false, false, false, false, false, false, false, false, false, false, false, false] rfl rfl (any_of HT_.out (by kernel_rfl)) (fun _ _ _ h => h) (Or.inl ⟨by rfl, ?_⟩) ?_ ?_
  rotate_left
  ·intro w'
   go_simp
   with_reducible rfl
  rotate_left
  ·simp only [Act.put, qA, qB, qC, i64_w, i32_w]
   rfl
  refine pure_ (i := 4) (N := some 17) (v := ?_) (a' := ?_) #[true, true, false, false, true, false, false, false, false, false, false, false, false, false, false] rfl rfl (any_of HT_.out (by kernel_rfl)) (fun _ _ _ h => h) (Or.inl ⟨by rfl, ?_⟩) ?_ ?_
  rotate_left
  ·intro w'
   go_simp
   with_reducible rfl
  rotate_left
  ·simp only [Act.put, qA, qB, qC, i64_w, i32_w]
   rfl
  refine pure_ (i := 9) (N := some 22) (v := ?_) (a' := ?_) #[true, true, false, false, true, false, false, false, false, true, false, false, false, false, false] rfl rfl (any_of HT_.out (by kernel_rfl)) (fun _ _ _ h => h) (Or.inl ⟨by rfl, ?_⟩) ?_ ?_
  rotate_left
  ·intro w'
   go_simp
   with_reducible rfl
  rotate_left
  ·simp only [Act.put, qA, qB, qC, i64_w, i32_w]
   rfl
  refine pure_ (i := 10) (N := some 23) (v := ?_) (a' := ?_) #[true, true, false, false, true, false, false, false, false, true, true, false, false, false, false] rfl rfl (any_of HT_.out (by kernel_rfl)) (fun _ _ _ h => h) (Or.inl ⟨by rfl, ?_⟩) ?_ ?_
  rotate_left
  ·intro w'
   go_simp
   with_reducible rfl
  rotate_left
  ·simp only [Act.put, qA, qB, qC, i64_w, i32_w]
   rfl
  refine inv_at [2, 3, 5, 6, 7, 8, 11, 12, 13, 14] (fun a0_ b a w' => ∃ (v422 : Value) (adz_v422 : Addr) (m6_ : Value), a = putSel a0_ b [(2, 15, .string (a1.extract 0 (t419 : Int).toNat)), (3, 16, v422), (5, 18, .int .i64 t424), (6, 19, m6_), (7, 20, .string (rdOf ByteArray.empty y421 t424)), (8, 21, .string ((a1.extract 0 (t419 : Int).toNat) ++ (rdOf ByteArray.empty y421 t424))), (11, 24, .int .i64 ji11), (12, 25, .string (a1.extract ((ji11) : Int).toNat a1.size)), (13, 26, .string (((a1.extract 0 (t419 : Int).toNat) ++ (rdOf ByteArray.empty y421 t424)) ++ (a1.extract ((ji11) : Int).toNat a1.size))), (14, 4, .string (((a1.extract 0 (t419 : Int).toNat) ++ (rdOf ByteArray.empty y421 t424)) ++ (a1.extract ((ji11) : Int).toNat a1.size)))] ∧ (b 5 = false → Iz w0 w' g s0_0 t420) ∧ (Kbt w w' g none) ∧ (Below w0.heap.size w0 w') ∧ (b 3 = true → Kd.R Kd.string 9 w' w.heap.size (fun _ => True) v422 y421) ∧ (b 3 = true → ∃ c_, (v422 : Value) = .slice (some adz_v422) y421.length c_) ∧ (b 5 = true → Iz w0 w' g s0_0 t425) ∧ (b 6 = true → (m6_ : Value) = .pointer (some (adz_v422.add (t424).toNat)))) HT_.out HW_.out (by kernel_rfl) (by kernel_rfl) ?_ ?_ ?_
  ·exact ⟨.bool false, ⟨0, 0, none⟩, .bool false, by simp only [putSel, Bool.false_eq_true, if_false], fun _ => HI0.out, HK.out, HB.out, fun h_ => absurd h_ (by decide), fun h_ => absurd h_ (by decide), fun h_ => absurd h_ (by decide), fun h_ => absurd h_ (by decide)⟩
  ·skip
   clear HB HI0 HK
   refine steps_cons ?_ ?_
   ·rintro b a w' ⟨v422, adz_v422, m6_, ha, Q_HI0, Q_HK, Q_HB, Q_HO423, Q_HA_HO423, Q_HI0_e5, Q_X6_⟩ hb_ hon hoff
    refine ⟨_, rfl, fun K hK => ?_⟩
    have e13 : a.tmps[13]? = some (.string a1) := by rw [ha]; exact (putSel_off rfl).trans rfl
    have e14 : a.tmps[14]? = some (.int .i64 t419) := by rw [ha]; exact (putSel_off rfl).trans rfl
    replace ha := Asd.mk ha
    have HK := Asd.mk Q_HK
    have HB := Asd.mk Q_HB
    refine value_ (w1 := w') (v := .string (a1.extract 0 (t419 : Int).toNat)) (by rfl) rfl ?_ ?_
    ·go_simp
     (try simp only [i64_w])
     try rfl
    refine hK.out _ _ ⟨v422, adz_v422, m6_, (by rw [ha.out]; exact putSel_upk 0 hb_ rfl rfl rfl), Q_HI0, Q_HK, Q_HB, Q_HO423, Q_HA_HO423, Q_HI0_e5, Q_X6_⟩
   refine steps_cons ?_ ?_
   ·rintro b a w' ⟨v422, adz_v422, m6_, ha, Q_HI0, Q_HK, Q_HB, Q_HO423, Q_HA_HO423, Q_HI0_e5, Q_X6_⟩ hb_ hon hoff
    refine ⟨_, rfl, fun K hK => ?_⟩
    replace ha := Asd.mk ha
    have HK := Asd.mk Q_HK
    have HB := Asd.mk Q_HB
    refine Kd.R_lit_step Kd.string _ 9 ?hg (N := 16) ?hd (xs := ([(⟨#[]⟩ : ByteArray), (⟨#[97]⟩ : ByteArray), (⟨#[32]⟩ : ByteArray), (⟨#[10]⟩ : ByteArray), (⟨#[40]⟩ : ByteArray), (⟨#[98, 97, 99, 107]⟩ : ByteArray)] : List ByteArray)) (inner := [.string (⟨#[]⟩ : ByteArray), .string (⟨#[97]⟩ : ByteArray), .string (⟨#[32]⟩ : ByteArray), .string (⟨#[10]⟩ : ByteArray), .string (⟨#[40]⟩ : ByteArray), .string (⟨#[98, 97, 99, 107]⟩ : ByteArray)]) (ok := fun _ => True) (okp := fun _ => True) ?hr ?hp (fun _ hk => hk) trivial (Below.refl _ _) (Nat.le_refl _) (by simp) ?_; (case hd => rfl); (case hg => rfl); (case hr => first | (go_simp; done) | (go_simp; rfl)); (case hp => exact (Reps.one (show Kd.M Kd.string _ _ _ (⟨#[]⟩ : ByteArray) [.string (⟨#[]⟩ : ByteArray)] from rfl) (Reps.one (show Kd.M Kd.string _ _ _ (⟨#[97]⟩ : ByteArray) [.string (⟨#[97]⟩ : ByteArray)] from rfl) (Reps.one (show Kd.M Kd.string _ _ _ (⟨#[32]⟩ : ByteArray) [.string (⟨#[32]⟩ : ByteArray)] from rfl) (Reps.one (show Kd.M Kd.string _ _ _ (⟨#[10]⟩ : ByteArray) [.string (⟨#[10]⟩ : ByteArray)] from rfl) (Reps.one (show Kd.M Kd.string _ _ _ (⟨#[40]⟩ : ByteArray) [.string (⟨#[40]⟩ : ByteArray)] from rfl) (Reps.one (show Kd.M Kd.string _ _ _ (⟨#[98, 97, 99, 107]⟩ : ByteArray) [.string (⟨#[98, 97, 99, 107]⟩ : ByteArray)] from rfl) (Reps.none _ _))))))))
    intro v422 w17 ho18 hb hg_ hnew_
    clear hg_ hnew_
    (first | rw [← Ny421.out] at ho18 | (simp only [Int.reduceToNat] at ho18; rw [← Ny421.out] at ho18))
    have n0_ := Asd.mk (Kd.R_lower ho18 (kpZ (w := w) (g := g) (row := none) (by repeat (with_reducible first | exact HK.out | apply Kbt.set_ | apply kpX))))
    have n2_ := Asd.mk (Kbt.trans (by repeat (with_reducible first | exact HK.out | apply Kbt.set_ | apply kpX)) (Kbt.of_below hb g none) (.inl rfl))
    have n3_ := Asd.mk (bwP (by repeat (with_reducible first | exact HB.out | apply bwX)) hb)
    have z_HI0 := fun (h0_ : b 5 = false) => (show Iz w0 w17 g s0_0 t420 from by first | exact (Iz.below (by repeat (first | (with_reducible first | exact (Q_HI0 h0_) | refine Iz.below ?_ StB.b | apply Iz.set_1) | exact (Q_HI0 h0_))) hb))
    have z_HI0_e5 := fun (h0_ : b 5 = true) => (show Iz w0 w17 g s0_0 t425 from by first | exact (Iz.below (by repeat (first | (with_reducible first | exact (Q_HI0_e5 h0_) | refine Iz.below ?_ StB.b | apply Iz.set_1) | exact (Q_HI0_e5 h0_))) hb))
    clear HK
    clear HB
    have HO423 := n0_
    have HK := n2_
    have HB := n3_
    clear n0_ n2_ n3_
    clear hb ho18
    obtain ⟨Ao19, co19, eo19⟩ := Kd.R_slice HO423.out
    subst eo19
    obtain ⟨ado19, fo19, _⟩ := Kd.at_string (Kd.R_reads' HO423.out).2.2 0 (by decide) (by rw [Ny421.out]; simp)
    cases fo19
    refine hK.out _ _ ⟨.slice (some ado19) y421.length co19, ado19, m6_, (by rw [ha.out]; exact putSel_upk 1 hb_ rfl rfl rfl), z_HI0, (by repeat (with_reducible first | exact HK.out | apply Kbt.set_ | apply kpX)), (by repeat (with_reducible first | exact HB.out | apply bwX)), fun _ => (by (repeat apply Kd.RS); exact HO423.out), fun _ => ⟨_, rfl⟩, z_HI0_e5, fun h0_ => absurd ((hoff 6 (by kernel_rfl)).symm.trans h0_) (by decide)⟩
   refine steps_cons ?_ ?_
   ·rintro b a w' ⟨v422, adz_v422, m6_, ha, Q_HI0, Q_HK, Q_HB, Q_HO423, Q_HA_HO423, Q_HI0_e5, Q_X6_⟩ hb_ hon hoff
    refine ⟨_, rfl, fun K hK => ?_⟩
    have e17 : a.tmps[17]? = some (.pointer (some ⟨g, 0, none⟩)) := by rw [ha]; exact (putSel_off rfl).trans rfl
    replace ha := Asd.mk ha
    have HI0 := Asd.mk (Q_HI0 hb_)
    have HK := Asd.mk Q_HK
    have HB := Asd.mk Q_HB
    refine goes_ Try.func82 (by kernel_rfl) rfl #[.pointer (some ⟨g, 0, none⟩), .int .i64 6] (by rfl) rfl rfl (by simp only [List.map_toArray, List.map_cons, List.map_nil, Act.eval, Array.getD_eq_getD_getElem?, Option.getD_some, e17]; first | done | rfl) ?_
    with_reducible refine (spec_l20Rd_pick.calls k g s0_0 t420 6 t424 t425 w0 _ ?side1 ?side2 A7.out).mono ?_
    (case side1 => repeat (with_reducible first | exact HI0.out | refine Iz.below ?_ StB.b | apply Iz.set_1))
    (case side2 => repeat (with_reducible first | exact HB.out | apply bwX | refine bwS ?_ (Iz.ge HI0.out)))
    rintro e w17 ⟨rfl, hi, hb, hk⟩
    refine ⟨_, rfl, ?_⟩
    have n0_ := Asd.mk (Kbt.trans (by repeat (with_reducible first | exact HK.out | apply Kbt.set_ | apply kpX)) hk (.inl rfl))
    have n1_ := Asd.mk (hb)
    have n2_ := Asd.mk (hi)
    have z_HO423 := fun (h0_ : b 3 = true) => (show Kd.R Kd.string 9 w17 w.heap.size (fun _ => True) v422 y421 from by first | exact (Kd.R_mono (Kd.R_keep (Iz.apart (show Iz w0 _ g s0_0 t420 from by repeat (with_reducible first | exact HI0.out | refine Iz.below ?_ StB.b | apply Iz.set_1)) (by (repeat apply Kd.RS); exact (Q_HO423 h0_)) (by decide)) hk (fun _ h => h.2)) (fun _ h => h.1)) | exact Kd.R_mono (Kd.R_mono (Kd.R_keep (Iz.apart (show Iz w0 _ g s0_0 t420 from by repeat (with_reducible first | exact HI0.out | refine Iz.below ?_ StB.b | apply Iz.set_1)) (by (repeat apply Kd.RS); exact (Q_HO423 h0_)) (by decide)) hk (fun _ h => h.2)) (fun _ h => h.1)) (fun _ h_ => by first | trivial | exact h_ | exact h_.1))
    clear HK
    clear HB
    clear HI0
    have HK := n0_
    have HB := n1_
    have HI0 := n2_
    clear n0_ n1_ n2_
    (try clear hb)
    (try clear hb2)
    (try clear hk)
    (try clear hi)
    refine hK.out _ _ ⟨v422, adz_v422, m6_, (by rw [ha.out]; exact putSel_upk 2 hb_ rfl rfl rfl), fun h0_ => absurd ((up_self b 5).symm.trans h0_) (by decide), (by repeat (with_reducible first | exact HK.out | apply Kbt.set_ | apply kpX)), (by repeat (with_reducible first | exact HB.out | apply bwX | refine bwS ?_ (Iz.ge HI0.out))), z_HO423, Q_HA_HO423, fun _ => (by repeat (with_reducible first | exact HI0.out | refine Iz.below ?_ StB.b | apply Iz.set_1)), fun h0_ => absurd ((hoff 6 (by kernel_rfl)).symm.trans h0_) (by decide)⟩
   refine steps_cons ?_ ?_
   ·rintro b a w' ⟨v422, adz_v422, m6_, ha, Q_HI0, Q_HK, Q_HB, Q_HO423, Q_HA_HO423, Q_HI0_e5, Q_X6_⟩ hb_ hon hoff
    refine ⟨_, rfl, fun K hK => ?_⟩
    have e16 : a.tmps[16]? = some (v422) := by rw [ha]; exact putSel_on (e := (3, 16, v422)) 1 rfl rfl (hon 3 (by kernel_rfl)) rfl
    have e18 : a.tmps[18]? = some (.int .i64 t424) := by rw [ha]; exact putSel_on (e := (5, 18, .int .i64 t424)) 2 rfl rfl (hon 5 (by kernel_rfl)) rfl
    replace ha := Asd.mk ha
    have HK := Asd.mk Q_HK
    have HB := Asd.mk Q_HB
    have HO423 := Asd.mk (Q_HO423 (hon 3 (by kernel_rfl)))
    have HA_HO423 := Asd.mk (Q_HA_HO423 (hon 3 (by kernel_rfl)))
    have HI0 := Asd.mk (Q_HI0_e5 (hon 5 (by kernel_rfl)))
    obtain ⟨c_, hv_⟩ := HA_HO423.out
    rw [hv_] at e16
    refine value_ (w1 := w') (v := .pointer (some (adz_v422.add (t424).toNat))) (by rfl) rfl ?_ ?_
    ·go_simp
     (try simp only [i64_w])
     try rfl
    refine hK.out _ _ ⟨v422, adz_v422, (.pointer (some (adz_v422.add (t424).toNat))), (by rw [ha.out]; exact putSel_upk 3 hb_ rfl rfl rfl), fun h0_ => absurd ((hon 5 (by kernel_rfl)).symm.trans h0_) (by decide), Q_HK, Q_HB, Q_HO423, Q_HA_HO423, Q_HI0_e5, fun _ => rfl⟩
   refine steps_cons ?_ ?_
   ·rintro b a w' ⟨v422, adz_v422, m6_, ha, Q_HI0, Q_HK, Q_HB, Q_HO423, Q_HA_HO423, Q_HI0_e5, Q_X6_⟩ hb_ hon hoff
    refine ⟨_, rfl, fun K hK => ?_⟩
    have e19 : a.tmps[19]? = some (m6_) := by rw [ha]; exact putSel_on (e := (6, 19, m6_)) 3 rfl rfl (hon 6 (by kernel_rfl)) rfl
    rw [Q_X6_ (hon 6 (by kernel_rfl))] at e19
    replace ha := Asd.mk ha
    have HK := Asd.mk Q_HK
    have HB := Asd.mk Q_HB
    have HO423 := Asd.mk (Q_HO423 (hon 3 (by kernel_rfl)))
    have HA_HO423 := Asd.mk (Q_HA_HO423 (hon 3 (by kernel_rfl)))
    have HI0 := Asd.mk (Q_HI0_e5 (hon 5 (by kernel_rfl)))
    obtain ⟨c_, hv_⟩ := HA_HO423.out
    have hF_ := HO423.out
    rw [hv_] at hF_
    obtain ⟨ad_, ea_, hx_⟩ := Kd.at_string (Kd.R_reads' hF_).2.2 t424 (of_eq_true pi426) (of_eq_true qi426)
    cases ea_
    refine value_ (w1 := w') (v := .string (rdOf ByteArray.empty y421 t424)) (by rfl) rfl ?_ ?_
    ·go_simp
     (try simp only [i64_w])
     try rfl
    refine hK.out _ _ ⟨v422, adz_v422, m6_, (by rw [ha.out]; exact putSel_upk 4 hb_ rfl rfl rfl), fun h0_ => absurd ((hon 5 (by kernel_rfl)).symm.trans h0_) (by decide), Q_HK, Q_HB, Q_HO423, Q_HA_HO423, Q_HI0_e5, Q_X6_⟩
   refine steps_cons ?_ ?_
   ·rintro b a w' ⟨v422, adz_v422, m6_, ha, Q_HI0, Q_HK, Q_HB, Q_HO423, Q_HA_HO423, Q_HI0_e5, Q_X6_⟩ hb_ hon hoff
    refine ⟨_, rfl, fun K hK => ?_⟩
    have e15 : a.tmps[15]? = some (.string (a1.extract 0 (t419 : Int).toNat)) := by rw [ha]; exact putSel_on (e := (2, 15, .string (a1.extract 0 (t419 : Int).toNat))) 0 rfl rfl (hon 2 (by kernel_rfl)) rfl
    have e20 : a.tmps[20]? = some (.string (rdOf ByteArray.empty y421 t424)) := by rw [ha]; exact putSel_on (e := (7, 20, .string (rdOf ByteArray.empty y421 t424))) 4 rfl rfl (hon 7 (by kernel_rfl)) rfl
    replace ha := Asd.mk ha
    have HK := Asd.mk Q_HK
    have HB := Asd.mk Q_HB
    have HO423 := Asd.mk (Q_HO423 (hon 3 (by kernel_rfl)))
    have HA_HO423 := Asd.mk (Q_HA_HO423 (hon 3 (by kernel_rfl)))
    have HI0 := Asd.mk (Q_HI0_e5 (hon 5 (by kernel_rfl)))
    refine value_ (w1 := w') (v := .string ((a1.extract 0 (t419 : Int).toNat) ++ (rdOf ByteArray.empty y421 t424))) (by rfl) rfl ?_ ?_
    ·go_simp
     (try simp only [i64_w])
     try rfl
    refine hK.out _ _ ⟨v422, adz_v422, m6_, (by rw [ha.out]; exact putSel_upk 5 hb_ rfl rfl rfl), fun h0_ => absurd ((hon 5 (by kernel_rfl)).symm.trans h0_) (by decide), Q_HK, Q_HB, Q_HO423, Q_HA_HO423, Q_HI0_e5, Q_X6_⟩
   refine steps_cons ?_ ?_
   ·rintro b a w' ⟨v422, adz_v422, m6_, ha, Q_HI0, Q_HK, Q_HB, Q_HO423, Q_HA_HO423, Q_HI0_e5, Q_X6_⟩ hb_ hon hoff
    refine ⟨_, rfl, fun K hK => ?_⟩
    have e23 : a.tmps[23]? = some (.int .i64 t419) := by rw [ha]; exact (putSel_off rfl).trans rfl
    replace ha := Asd.mk ha
    have HK := Asd.mk Q_HK
    have HB := Asd.mk Q_HB
    refine value_ (w1 := w') (v := .int .i64 ji11) (by rfl) rfl ?_ ?_
    ·go_simp
     (try simp only [i64_w])
     try rfl
    refine hK.out _ _ ⟨v422, adz_v422, m6_, (by rw [ha.out]; exact putSel_upk 6 hb_ rfl rfl rfl), Q_HI0, Q_HK, Q_HB, Q_HO423, Q_HA_HO423, Q_HI0_e5, Q_X6_⟩
   refine steps_cons ?_ ?_
   ·rintro b a w' ⟨v422, adz_v422, m6_, ha, Q_HI0, Q_HK, Q_HB, Q_HO423, Q_HA_HO423, Q_HI0_e5, Q_X6_⟩ hb_ hon hoff
    refine ⟨_, rfl, fun K hK => ?_⟩
    have e22 : a.tmps[22]? = some (.string a1) := by rw [ha]; exact (putSel_off rfl).trans rfl
    have e24 : a.tmps[24]? = some (.int .i64 ji11) := by rw [ha]; exact putSel_on (e := (11, 24, .int .i64 ji11)) 6 rfl rfl (hon 11 (by kernel_rfl)) rfl
    replace ha := Asd.mk ha
    have HK := Asd.mk Q_HK
    have HB := Asd.mk Q_HB
    refine value_ (w1 := w') (v := .string (a1.extract ((ji11) : Int).toNat a1.size)) (by rfl) rfl ?_ ?_
    ·go_simp
     (try simp only [i64_w])
     try rfl
    refine hK.out _ _ ⟨v422, adz_v422, m6_, (by rw [ha.out]; exact putSel_upk 7 hb_ rfl rfl rfl), Q_HI0, Q_HK, Q_HB, Q_HO423, Q_HA_HO423, Q_HI0_e5, Q_X6_⟩
   refine steps_cons ?_ ?_
   ·rintro b a w' ⟨v422, adz_v422, m6_, ha, Q_HI0, Q_HK, Q_HB, Q_HO423, Q_HA_HO423, Q_HI0_e5, Q_X6_⟩ hb_ hon hoff
    refine ⟨_, rfl, fun K hK => ?_⟩
    have e21 : a.tmps[21]? = some (.string ((a1.extract 0 (t419 : Int).toNat) ++ (rdOf ByteArray.empty y421 t424))) := by rw [ha]; exact putSel_on (e := (8, 21, .string ((a1.extract 0 (t419 : Int).toNat) ++ (rdOf ByteArray.empty y421 t424)))) 5 rfl rfl (hon 8 (by kernel_rfl)) rfl
    have e25 : a.tmps[25]? = some (.string (a1.extract ((ji11) : Int).toNat a1.size)) := by rw [ha]; exact putSel_on (e := (12, 25, .string (a1.extract ((ji11) : Int).toNat a1.size))) 7 rfl rfl (hon 12 (by kernel_rfl)) rfl
    replace ha := Asd.mk ha
    have HK := Asd.mk Q_HK
    have HB := Asd.mk Q_HB
    have HO423 := Asd.mk (Q_HO423 (hon 3 (by kernel_rfl)))
    have HA_HO423 := Asd.mk (Q_HA_HO423 (hon 3 (by kernel_rfl)))
    have HI0 := Asd.mk (Q_HI0_e5 (hon 5 (by kernel_rfl)))
    refine value_ (w1 := w') (v := .string (((a1.extract 0 (t419 : Int).toNat) ++ (rdOf ByteArray.empty y421 t424)) ++ (a1.extract ((ji11) : Int).toNat a1.size))) (by rfl) rfl ?_ ?_
    ·go_simp
     (try simp only [i64_w])
     try rfl
    refine hK.out _ _ ⟨v422, adz_v422, m6_, (by rw [ha.out]; exact putSel_upk 8 hb_ rfl rfl rfl), fun h0_ => absurd ((hon 5 (by kernel_rfl)).symm.trans h0_) (by decide), Q_HK, Q_HB, Q_HO423, Q_HA_HO423, Q_HI0_e5, Q_X6_⟩
   refine steps_cons ?_ ?_
   ·rintro b a w' ⟨v422, adz_v422, m6_, ha, Q_HI0, Q_HK, Q_HB, Q_HO423, Q_HA_HO423, Q_HI0_e5, Q_X6_⟩ hb_ hon hoff
    refine ⟨_, rfl, fun K hK => ?_⟩
    have e26 : a.tmps[26]? = some (.string (((a1.extract 0 (t419 : Int).toNat) ++ (rdOf ByteArray.empty y421 t424)) ++ (a1.extract ((ji11) : Int).toNat a1.size))) := by rw [ha]; exact putSel_on (e := (13, 26, .string (((a1.extract 0 (t419 : Int).toNat) ++ (rdOf ByteArray.empty y421 t424)) ++ (a1.extract ((ji11) : Int).toNat a1.size)))) 8 rfl rfl (hon 13 (by kernel_rfl)) rfl
    replace ha := Asd.mk ha
    have HK := Asd.mk Q_HK
    have HB := Asd.mk Q_HB
    have HO423 := Asd.mk (Q_HO423 (hon 3 (by kernel_rfl)))
    have HA_HO423 := Asd.mk (Q_HA_HO423 (hon 3 (by kernel_rfl)))
    have HI0 := Asd.mk (Q_HI0_e5 (hon 5 (by kernel_rfl)))
    refine value_ (w1 := w') (v := .string (((a1.extract 0 (t419 : Int).toNat) ++ (rdOf ByteArray.empty y421 t424)) ++ (a1.extract ((ji11) : Int).toNat a1.size))) (by rfl) rfl ?_ ?_
    ·go_simp
     (try simp only [i64_w])
     try rfl
    refine hK.out _ _ ⟨v422, adz_v422, m6_, (by rw [ha.out]; exact putSel_upk 9 hb_ rfl rfl rfl), fun h0_ => absurd ((hon 5 (by kernel_rfl)).symm.trans h0_) (by decide), Q_HK, Q_HB, Q_HO423, Q_HA_HO423, Q_HI0_e5, Q_X6_⟩
   exact steps_nil
  rintro b a w21 hall ⟨v422, adz_v422, m6_, ha, Q_HI0, Q_HK, Q_HB, Q_HO423, Q_HA_HO423, Q_HI0_e5, Q_X6_⟩
  clear HB HI0 HK
  have hb2_ := hall 2 (by kernel_rfl)
  have hb3_ := hall 3 (by kernel_rfl)
  have hb5_ := hall 5 (by kernel_rfl)
  have hb6_ := hall 6 (by kernel_rfl)
  have hb7_ := hall 7 (by kernel_rfl)
  have hb8_ := hall 8 (by kernel_rfl)
  have hb11_ := hall 11 (by kernel_rfl)
  have hb12_ := hall 12 (by kernel_rfl)
  have hb13_ := hall 13 (by kernel_rfl)
  have hb14_ := hall 14 (by kernel_rfl)
  subst ha
  obtain rfl := Q_X6_ hb6_
  simp only [putSel, hb2_, hb3_, hb5_, hb6_, hb7_, hb8_, hb11_, hb12_, hb13_, hb14_, if_true, Act.put, qA, qB, qC]
  clear Q_HI0
  have HK := Asd.mk Q_HK
  clear Q_HK
  have HB := Asd.mk Q_HB
  clear Q_HB
  have HO423 := Asd.mk (Q_HO423 hb3_)
  clear Q_HO423
  have HA_HO423 := Asd.mk (Q_HA_HO423 hb3_)
  clear Q_HA_HO423
  have HI0 := Asd.mk (Q_HI0_e5 hb5_)
  clear Q_HI0_e5
  clear hall hb2_ hb3_ hb5_ hb6_ hb7_ hb8_ hb11_ hb12_ hb13_ hb14_
  obtain ⟨co22, eo22⟩ := HA_HO423.out
  clear HA_HO423
  subst eo22
  try go_wp2
  go_ret
  exact ⟨by first | rfl | (simp [errW_none, errW_some] <;> rfl) | (simp only [← hji11]; first | rfl | (simp [errW_none, errW_some] <;> rfl)) | (simp [*, errW_none, errW_some] <;> rfl), by repeat (with_reducible first | exact HI0.out | refine Iz.below ?_ StB.b | apply Iz.set_1), by repeat (with_reducible first | exact HB.out | apply bwX | refine bwS ?_ (Iz.ge HI0.out)), by repeat (with_reducible first | exact HK.out | apply Kbt.set_ | apply kpX)⟩

/-! ### spec_DrawReadDeed: function 50 -/
def spec_DrawReadDeed.f (k : Nat) (l0 : List Int) : Option (ByteArray) := (spec_l20Open.f l0).bind fun bt427 => ((spec_l20Mind.f k bt427.1 bt427.2 0).bind fun bt430 => ((spec_l20Deed.f k bt427.1 bt430.2.2.2 bt430.1 bt430.2.1 bt430.2.2.1).bind fun bt438 => ((spec_DeedText.f k bt438.1 bt438.2.1).bind fun t441 => ((spec_l20Rd_pick.f k bt427.1 bt438.2.2 3).bind fun bt442 => (if bt442.1 = 0 then ((spec_l20Spoil.f k bt427.1 bt442.2 t441).bind fun bt444 => (some bt444.1)) else (some t441))))))
theorem spec_DrawReadDeed.mono : ∀ a0 k, LeO (spec_DrawReadDeed.f k a0) (spec_DrawReadDeed.f (k + 1) a0) := by
 intro a0 k
 unfold spec_DrawReadDeed.f
 repeat' first
   | (with_reducible exact spec_DeedText.mono _ _ _)
   | (with_reducible exact spec_l20Deed.mono _ _ _ _ _ _)
   | (with_reducible exact spec_l20Mind.mono _ _ _ _)
   | (with_reducible exact spec_l20Rd_pick.mono _ _ _ _)
   | (with_reducible exact spec_l20Spoil.mono _ _ _ _)
   | (with_reducible exact LeO.refl _)
   | (with_reducible exact LeO.none _)
   | (with_reducible refine LeO.ite ?_ ?_)
   | (with_reducible refine LeO.bind ?_ (fun _ => ?_))
   | refine LeO.ite ?_ ?_
   | refine LeO.bind ?_ (fun _ => ?_)
set_option maxHeartbeats 8000000 in
set_option maxRecDepth 100000 in
theorem spec_DrawReadDeed.calls (k : Nat) (A0 : Option Addr) (c0 : Nat) (l0 : List Int) (r : ByteArray) (w : World) (hr0 : Kd.C (Kd.int .u8) w A0 l0.length l0) (hc0 : l0.length ≤ c0) (h : spec_DrawReadDeed.f k l0 = some r) :
  Calls Try.prog 50 #[.slice A0 l0.length c0] w fun e w' => e = .returned (.string r) ∧ Below w.heap.size w w' := by
 have HR0 := Asd.mk hr0
 have HC0 := Asd.mk hc0
 clear hr0 hc0
 have HB := Asd.mk (Below.refl w.heap.size w)
 have H : ((spec_l20Open.f l0).bind fun bt427 => ((spec_l20Mind.f k bt427.1 bt427.2 0).bind fun bt430 => ((spec_l20Deed.f k bt427.1 bt430.2.2.2 bt430.1 bt430.2.1 bt430.2.2.1).bind fun bt438 => ((spec_DeedText.f k bt438.1 bt438.2.1).bind fun t441 => ((spec_l20Rd_pick.f k bt427.1 bt438.2.2 3).bind fun bt442 => (if bt442.1 = 0 then ((spec_l20Spoil.f k bt427.1 bt442.2 t441).bind fun bt444 => (some bt444.1)) else (some t441))))))) = some r := h
 clear h
 replace H := Option.bind_eq_some_iff.mp H
 obtain ⟨⟨t427, t428⟩, A20, H⟩ := H
 try dsimp only at H
 have A2 := Asd.mk A20
 clear A20
 replace H := Option.bind_eq_some_iff.mp H
 obtain ⟨⟨t430, t431, t434, t437⟩, A30, H⟩ := H
 try dsimp only at H
 have A3 := Asd.mk A30
 clear A30
 replace H := Option.bind_eq_some_iff.mp H
 obtain ⟨⟨t438, t439, t440⟩, A40, H⟩ := H
 try dsimp only at H
 have A4 := Asd.mk A40
 clear A40
 replace H := Option.bind_eq_some_iff.mp H
 obtain ⟨t441, A50, H⟩ := H
 try dsimp only at H
 have A5 := Asd.mk A50
 clear A50
 replace H := Option.bind_eq_some_iff.mp H
 obtain ⟨⟨t442, t443⟩, A60, H⟩ := H
 try dsimp only at H
 have A6 := Asd.mk A60
 clear A60
 by_cases c7 : t442 = 0
 ·rw [if_pos c7] at H
  have c7b0 : (t442 == 0) = true := beq_iff_eq.mpr c7
  have c7b1 : (t442 != 0) = false := bne_eq_false_iff_eq.mpr c7
  clear c7
  replace H := Option.bind_eq_some_iff.mp H
  obtain ⟨⟨t444, t445⟩, A80, H⟩ := H
  try dsimp only at H
  have A8 := Asd.mk A80
  clear A80
  obtain rfl := Option.some.inj H
  go_enter Try.func50, Try.ntmps50
  go_wp2_with (first | ((with_reducible refine gate_callee (f := 78) rfl ?_); refine gsM (some 6) rfl rfl Try.func78 (by kernel_rfl) rfl #[.slice A0 l0.length c0] rfl ?_; (with_reducible refine (spec_l20Open.calls _ _ l0 t427 t428 w _ ?side1 ?side2 ?side3 A2.out).mono ?_); (case side1 => repeat (with_reducible first | exact HB.out | apply bwX)); (case side2 => exact HR0.out); (case side3 => exact HC0.out); rintro e w9 ⟨g429, rfl, hi, hb, hb2⟩; refine ⟨_, rfl, ?_⟩; have n0_ := Asd.mk (hb); have n1_ := Asd.mk (hi); clear HB; have HB := n0_; have HI429 := n1_; clear n0_ n1_; (try clear hb); (try clear hb2); (try clear hk); (try clear hi)) | ((with_reducible refine gate_callee (f := 88) rfl ?_); refine gsM (some 9) rfl rfl Try.func88 (by kernel_rfl) rfl #[.pointer (some ⟨g429, 0, none⟩), .int .i64 0] rfl ?_; (with_reducible refine (spec_l20Mind.calls k g429 t427 t428 0 t430 t431 t434 t437 w _ ?side1 ?side2 A3.out).mono ?_); (case side1 => repeat (with_reducible first | exact HI429.out | refine Iz.below ?_ StB.b | apply Iz.set_1)); (case side2 => repeat (with_reducible first | exact HB.out | apply bwX | refine bwS ?_ (Iz.ge HI429.out))); rintro e w10 ⟨v432, v435, rfl, ho0, ho1, hi, hb, hk⟩; refine ⟨_, rfl, ?_⟩; have n0_ := Asd.mk (Kd.R_lower ho0 (below_size (by repeat (with_reducible first | exact HB.out | apply bwX | refine bwS ?_ (Iz.ge HI429.out))))); have n1_ := Asd.mk (Kd.S_lower ho1 (below_size (by repeat (with_reducible first | exact HB.out | apply bwX | refine bwS ?_ (Iz.ge HI429.out))))); have n2_ := Asd.mk (hb); have n3_ := Asd.mk (hi); clear HB; clear HI429; have HO433 := n0_; have HO436 := n1_; have HB := n2_; have HI429 := n3_; clear n0_ n1_ n2_ n3_; (try clear hb); (try clear hb2); (try clear hk); (try clear hi); (try clear ho0); (try clear ho1); obtain ⟨Ao11, co11, eo11⟩ := Kd.R_slice HO433.out; subst eo11; obtain ⟨Ao12, co12, eo12⟩ := Kd.S_slice HO436.out; subst eo12) | ((with_reducible refine gate_callee (f := 87) rfl ?_); refine gsM (some 10) rfl rfl Try.func87 (by kernel_rfl) rfl #[.pointer (some ⟨g429, 0, none⟩), .agg #[.int .i64 t430, .slice Ao11 t431.length co11, .slice Ao12 t434.length co12]] rfl ?_; (with_reducible refine (spec_l20Deed.calls k g429 t427 t437 t430 _ _ t431 _ _ t434 t438 t439 t440 w _ ?side1 ?side2 ?side3 ?side4 ?side5 ?side6 ?side7 A4.out).mono ?_); (case side1 => repeat (with_reducible first | exact HI429.out | refine Iz.below ?_ StB.b | apply Iz.set_1)); (case side2 => repeat (with_reducible first | exact HB.out | apply bwX | refine bwS ?_ (Iz.ge HI429.out))); (case side3 => repeat (first | exact (Kd.R_reads' HO433.out).2.2 | (with_reducible refine Kd.C_alloc ?_ _) | (with_reducible refine Kd.C_drewN ?_ _) | (with_reducible refine Kd.C_drew ?_))); (case side4 => exact (Kd.R_reads' HO433.out).2.1); (case side5 => exact far_slice (Iz.own_ne HI429.out HO433.out (by decide))); (case side6 => exact Kd.C_foot_own ((Kd.S_R (Iz.apartS (show Iz w _ g429 t427 t437 from by repeat (with_reducible first | exact HI429.out | refine Iz.below ?_ StB.b | apply Iz.set_1)) (by (repeat apply Kd.SS); exact HO436.out) (by decide)))) (fun _ h_ => h_.2)); (case side7 => exact (Kd.S_reads' HO436.out).2.1); rintro e w13 ⟨rfl, hi, hb, hk⟩; refine ⟨_, rfl, ?_⟩; have n0_ := Asd.mk (Kd.R_mono (Kd.R_keep (Iz.apart (show Iz w _ g429 t427 t437 from by repeat (with_reducible first | exact HI429.out | refine Iz.below ?_ StB.b | apply Iz.set_1)) (by (repeat apply Kd.RS); exact HO433.out) (by decide)) hk (fun _ h => h.2)) (fun _ h => h.1)); have n1_ := Asd.mk (Kd.S_mono (Kd.S_keep (Iz.apartS (show Iz w _ g429 t427 t437 from by repeat (with_reducible first | exact HI429.out | refine Iz.below ?_ StB.b | apply Iz.set_1)) (by (repeat apply Kd.SS); exact HO436.out) (by decide)) hk (fun _ h => h.2)) (fun _ h => h.1)); have n2_ := Asd.mk (hb); have n3_ := Asd.mk (hi); clear HO433; clear HO436; clear HB; clear HI429; have HO433 := n0_; have HO436 := n1_; have HB := n2_; have HI429 := n3_; clear n0_ n1_ n2_ n3_; (try clear hb); (try clear hb2); (try clear hk); (try clear hi)) | ((with_reducible refine gate_callee (f := 20) rfl ?_); refine gsM (some 11) rfl rfl Try.func20 (by kernel_rfl) rfl #[.agg #[.int .i64 t438, .string t439]] rfl ?_; (with_reducible refine (spec_DeedText.calls k t438 t439 t441 _ A5.out).mono ?_); rintro e w14 ⟨rfl, hb⟩; refine ⟨_, rfl, ?_⟩; have n0_ := Asd.mk (Kd.R_below (by (repeat apply Kd.RS); exact HO433.out) hb); have n1_ := Asd.mk (Kd.S_below (by (repeat apply Kd.SS); exact HO436.out) hb); have n2_ := Asd.mk (Iz.below (by repeat (with_reducible first | exact HI429.out | refine Iz.below ?_ StB.b | apply Iz.set_1)) hb); have n3_ := Asd.mk (bwP (by repeat (with_reducible first | exact HB.out | apply bwX | refine bwS ?_ (Iz.ge HI429.out))) hb); clear HO433; clear HO436; clear HI429; clear HB; have HO433 := n0_; have HO436 := n1_; have HI429 := n2_; have HB := n3_; clear n0_ n1_ n2_ n3_; (try clear hb); (try clear hb2); (try clear hk); (try clear hi)) | ((with_reducible refine gate_callee (f := 82) rfl ?_); refine gsM (some 13) rfl rfl Try.func82 (by kernel_rfl) rfl #[.pointer (some ⟨g429, 0, none⟩), .int .i64 3] rfl ?_; (with_reducible refine (spec_l20Rd_pick.calls k g429 t427 t440 3 t442 t443 w _ ?side1 ?side2 A6.out).mono ?_); (case side1 => repeat (with_reducible first | exact HI429.out | refine Iz.below ?_ StB.b | apply Iz.set_1)); (case side2 => repeat (with_reducible first | exact HB.out | apply bwX | refine bwS ?_ (Iz.ge HI429.out))); rintro e w15 ⟨rfl, hi, hb, hk⟩; refine ⟨_, rfl, ?_⟩; have n0_ := Asd.mk (Kd.R_mono (Kd.R_keep (Iz.apart (show Iz w _ g429 t427 t440 from by repeat (with_reducible first | exact HI429.out | refine Iz.below ?_ StB.b | apply Iz.set_1)) (by (repeat apply Kd.RS); exact HO433.out) (by decide)) hk (fun _ h => h.2)) (fun _ h => h.1)); have n1_ := Asd.mk (Kd.S_mono (Kd.S_keep (Iz.apartS (show Iz w _ g429 t427 t440 from by repeat (with_reducible first | exact HI429.out | refine Iz.below ?_ StB.b | apply Iz.set_1)) (by (repeat apply Kd.SS); exact HO436.out) (by decide)) hk (fun _ h => h.2)) (fun _ h => h.1)); have n2_ := Asd.mk (hb); have n3_ := Asd.mk (hi); clear HO433; clear HO436; clear HB; clear HI429; have HO433 := n0_; have HO436 := n1_; have HB := n2_; have HI429 := n3_; clear n0_ n1_ n2_ n3_; (try clear hb); (try clear hb2); (try clear hk); (try clear hi)) | ((with_reducible refine gate_callee (f := 96) rfl ?_); refine gsM (some 17) rfl rfl Try.func96 (by kernel_rfl) rfl #[.pointer (some ⟨g429, 0, none⟩), .string t441] rfl ?_; (with_reducible refine (spec_l20Spoil.calls k g429 t427 t443 t441 t444 t445 w _ ?side1 ?side2 A8.out).mono ?_); (case side1 => repeat (with_reducible first | exact HI429.out | refine Iz.below ?_ StB.b | apply Iz.set_1)); (case side2 => repeat (with_reducible first | exact HB.out | apply bwX | refine bwS ?_ (Iz.ge HI429.out))); rintro e w16 ⟨rfl, hi, hb, hk⟩; refine ⟨_, rfl, ?_⟩; have n0_ := Asd.mk (Kd.R_mono (Kd.R_keep (Iz.apart (show Iz w _ g429 t427 t443 from by repeat (with_reducible first | exact HI429.out | refine Iz.below ?_ StB.b | apply Iz.set_1)) (by (repeat apply Kd.RS); exact HO433.out) (by decide)) hk (fun _ h => h.2)) (fun _ h => h.1)); have n1_ := Asd.mk (Kd.S_mono (Kd.S_keep (Iz.apartS (show Iz w _ g429 t427 t443 from by repeat (with_reducible first | exact HI429.out | refine Iz.below ?_ StB.b | apply Iz.set_1)) (by (repeat apply Kd.SS); exact HO436.out) (by decide)) hk (fun _ h => h.2)) (fun _ h => h.1)); have n2_ := Asd.mk (hb); have n3_ := Asd.mk (hi); clear HO433; clear HO436; clear HB; clear HI429; have HO433 := n0_; have HO436 := n1_; have HB := n2_; have HI429 := n3_; clear n0_ n1_ n2_ n3_; (try clear hb); (try clear hb2); (try clear hk); (try clear hi)))
  go_ret
  exact ⟨by first | rfl | (simp [*, errW_none, errW_some] <;> rfl), by repeat (with_reducible first | exact HB.out | apply bwX | refine bwS ?_ (Iz.ge HI429.out))⟩
 ·rw [if_neg c7] at H
  have c7b0 : (t442 == 0) = false := beq_eq_false_iff_ne.mpr c7
  have c7b1 : (t442 != 0) = true := bne_iff_ne.mpr c7
  obtain rfl := Option.some.inj H
  go_enter Try.func50, Try.ntmps50
  go_wp2_with (first | ((with_reducible refine gate_callee (f := 78) rfl ?_); refine gsM (some 6) rfl rfl Try.func78 (by kernel_rfl) rfl #[.slice A0 l0.length c0] rfl ?_; (with_reducible refine (spec_l20Open.calls _ _ l0 t427 t428 w _ ?side1 ?side2 ?side3 A2.out).mono ?_); (case side1 => repeat (with_reducible first | exact HB.out | apply bwX)); (case side2 => exact HR0.out); (case side3 => exact HC0.out); rintro e w17 ⟨g429, rfl, hi, hb, hb2⟩; refine ⟨_, rfl, ?_⟩; have n0_ := Asd.mk (hb); have n1_ := Asd.mk (hi); clear HB; have HB := n0_; have HI429 := n1_; clear n0_ n1_; (try clear hb); (try clear hb2); (try clear hk); (try clear hi)) | ((with_reducible refine gate_callee (f := 88) rfl ?_); refine gsM (some 9) rfl rfl Try.func88 (by kernel_rfl) rfl #[.pointer (some ⟨g429, 0, none⟩), .int .i64 0] rfl ?_; (with_reducible refine (spec_l20Mind.calls k g429 t427 t428 0 t430 t431 t434 t437 w _ ?side1 ?side2 A3.out).mono ?_); (case side1 => repeat (with_reducible first | exact HI429.out | refine Iz.below ?_ StB.b | apply Iz.set_1)); (case side2 => repeat (with_reducible first | exact HB.out | apply bwX | refine bwS ?_ (Iz.ge HI429.out))); rintro e w18 ⟨v432, v435, rfl, ho0, ho1, hi, hb, hk⟩; refine ⟨_, rfl, ?_⟩; have n0_ := Asd.mk (Kd.R_lower ho0 (below_size (by repeat (with_reducible first | exact HB.out | apply bwX | refine bwS ?_ (Iz.ge HI429.out))))); have n1_ := Asd.mk (Kd.S_lower ho1 (below_size (by repeat (with_reducible first | exact HB.out | apply bwX | refine bwS ?_ (Iz.ge HI429.out))))); have n2_ := Asd.mk (hb); have n3_ := Asd.mk (hi); clear HB; clear HI429; have HO433 := n0_; have HO436 := n1_; have HB := n2_; have HI429 := n3_; clear n0_ n1_ n2_ n3_; (try clear hb); (try clear hb2); (try clear hk); (try clear hi); (try clear ho0); (try clear ho1); obtain ⟨Ao19, co19, eo19⟩ := Kd.R_slice HO433.out; subst eo19; obtain ⟨Ao20, co20, eo20⟩ := Kd.S_slice HO436.out; subst eo20) | ((with_reducible refine gate_callee (f := 87) rfl ?_); refine gsM (some 10) rfl rfl Try.func87 (by kernel_rfl) rfl #[.pointer (some ⟨g429, 0, none⟩), .agg #[.int .i64 t430, .slice Ao19 t431.length co19, .slice Ao20 t434.length co20]] rfl ?_; (with_reducible refine (spec_l20Deed.calls k g429 t427 t437 t430 _ _ t431 _ _ t434 t438 t439 t440 w _ ?side1 ?side2 ?side3 ?side4 ?side5 ?side6 ?side7 A4.out).mono ?_); (case side1 => repeat (with_reducible first | exact HI429.out | refine Iz.below ?_ StB.b | apply Iz.set_1)); (case side2 => repeat (with_reducible first | exact HB.out | apply bwX | refine bwS ?_ (Iz.ge HI429.out))); (case side3 => repeat (first | exact (Kd.R_reads' HO433.out).2.2 | (with_reducible refine Kd.C_alloc ?_ _) | (with_reducible refine Kd.C_drewN ?_ _) | (with_reducible refine Kd.C_drew ?_))); (case side4 => exact (Kd.R_reads' HO433.out).2.1); (case side5 => exact far_slice (Iz.own_ne HI429.out HO433.out (by decide))); (case side6 => exact Kd.C_foot_own ((Kd.S_R (Iz.apartS (show Iz w _ g429 t427 t437 from by repeat (with_reducible first | exact HI429.out | refine Iz.below ?_ StB.b | apply Iz.set_1)) (by (repeat apply Kd.SS); exact HO436.out) (by decide)))) (fun _ h_ => h_.2)); (case side7 => exact (Kd.S_reads' HO436.out).2.1); rintro e w21 ⟨rfl, hi, hb, hk⟩; refine ⟨_, rfl, ?_⟩; have n0_ := Asd.mk (Kd.R_mono (Kd.R_keep (Iz.apart (show Iz w _ g429 t427 t437 from by repeat (with_reducible first | exact HI429.out | refine Iz.below ?_ StB.b | apply Iz.set_1)) (by (repeat apply Kd.RS); exact HO433.out) (by decide)) hk (fun _ h => h.2)) (fun _ h => h.1)); have n1_ := Asd.mk (Kd.S_mono (Kd.S_keep (Iz.apartS (show Iz w _ g429 t427 t437 from by repeat (with_reducible first | exact HI429.out | refine Iz.below ?_ StB.b | apply Iz.set_1)) (by (repeat apply Kd.SS); exact HO436.out) (by decide)) hk (fun _ h => h.2)) (fun _ h => h.1)); have n2_ := Asd.mk (hb); have n3_ := Asd.mk (hi); clear HO433; clear HO436; clear HB; clear HI429; have HO433 := n0_; have HO436 := n1_; have HB := n2_; have HI429 := n3_; clear n0_ n1_ n2_ n3_; (try clear hb); (try clear hb2); (try clear hk); (try clear hi)) | ((with_reducible refine gate_callee (f := 20) rfl ?_); refine gsM (some 11) rfl rfl Try.func20 (by kernel_rfl) rfl #[.agg #[.int .i64 t438, .string t439]] rfl ?_; (with_reducible refine (spec_DeedText.calls k t438 t439 t441 _ A5.out).mono ?_); rintro e w22 ⟨rfl, hb⟩; refine ⟨_, rfl, ?_⟩; have n0_ := Asd.mk (Kd.R_below (by (repeat apply Kd.RS); exact HO433.out) hb); have n1_ := Asd.mk (Kd.S_below (by (repeat apply Kd.SS); exact HO436.out) hb); have n2_ := Asd.mk (Iz.below (by repeat (with_reducible first | exact HI429.out | refine Iz.below ?_ StB.b | apply Iz.set_1)) hb); have n3_ := Asd.mk (bwP (by repeat (with_reducible first | exact HB.out | apply bwX | refine bwS ?_ (Iz.ge HI429.out))) hb); clear HO433; clear HO436; clear HI429; clear HB; have HO433 := n0_; have HO436 := n1_; have HI429 := n2_; have HB := n3_; clear n0_ n1_ n2_ n3_; (try clear hb); (try clear hb2); (try clear hk); (try clear hi)) | ((with_reducible refine gate_callee (f := 82) rfl ?_); refine gsM (some 13) rfl rfl Try.func82 (by kernel_rfl) rfl #[.pointer (some ⟨g429, 0, none⟩), .int .i64 3] rfl ?_; (with_reducible refine (spec_l20Rd_pick.calls k g429 t427 t440 3 t442 t443 w _ ?side1 ?side2 A6.out).mono ?_); (case side1 => repeat (with_reducible first | exact HI429.out | refine Iz.below ?_ StB.b | apply Iz.set_1)); (case side2 => repeat (with_reducible first | exact HB.out | apply bwX | refine bwS ?_ (Iz.ge HI429.out))); rintro e w23 ⟨rfl, hi, hb, hk⟩; refine ⟨_, rfl, ?_⟩; have n0_ := Asd.mk (Kd.R_mono (Kd.R_keep (Iz.apart (show Iz w _ g429 t427 t440 from by repeat (with_reducible first | exact HI429.out | refine Iz.below ?_ StB.b | apply Iz.set_1)) (by (repeat apply Kd.RS); exact HO433.out) (by decide)) hk (fun _ h => h.2)) (fun _ h => h.1)); have n1_ := Asd.mk (Kd.S_mono (Kd.S_keep (Iz.apartS (show Iz w _ g429 t427 t440 from by repeat (with_reducible first | exact HI429.out | refine Iz.below ?_ StB.b | apply Iz.set_1)) (by (repeat apply Kd.SS); exact HO436.out) (by decide)) hk (fun _ h => h.2)) (fun _ h => h.1)); have n2_ := Asd.mk (hb); have n3_ := Asd.mk (hi); clear HO433; clear HO436; clear HB; clear HI429; have HO433 := n0_; have HO436 := n1_; have HB := n2_; have HI429 := n3_; clear n0_ n1_ n2_ n3_; (try clear hb); (try clear hb2); (try clear hk); (try clear hi)))
  go_ret
  exact ⟨by first | rfl | (simp [*, errW_none, errW_some] <;> rfl), by repeat (with_reducible first | exact HB.out | apply bwX | refine bwS ?_ (Iz.ge HI429.out))⟩

/-! ### laws_FnReadDeed: function 10 -/
def laws_FnReadDeed.j0 : Nat → ByteArray → Bool → Bool → Int → ByteArray → Option (Bool)
 | 0, _, _, _, _, _ => none
 | k + 1, x3, x5, x32, x451000, x451001 => if x32 = true then (some false) else (if x5 = true then (if x3.size + 1 ≤ 9223372036854775807 then ((impl_ReadDeed.f k (x3 ++ (⟨#[10]⟩ : ByteArray))).bind fun bt455 => ((impl_DeedText.f k x451000 x451001).bind fun t459 => (if t459.toList = x3.toList then (some (!bt455.2.2)) else (some false)))) else (none)) else (if (x451000 == 0 && (x451001.toList == ([] : List UInt8))) = true then ((laws_alive.f).bind fun t460 => (some t460)) else (some false)))
def laws_FnReadDeed.f (k : Nat) (l0 : List Int) : Option (Bool) := if (l0.length : Int) > 1048576 then (some true) else ((spec_DrawReadDeed.f k l0).bind fun t446 => ((impl_ReadDeed.f k t446).bind fun bt447 => ((spec_ReadDeed.f k t446).bind fun bt451 => (if (!(bt447.1 == bt451.1) || (!(bt447.2.1.toList == bt451.2.1.toList))) = true then (laws_FnReadDeed.j0 k t446 bt447.2.2 true bt447.1 bt447.2.1) else (laws_FnReadDeed.j0 k t446 bt447.2.2 (bt447.2.2 != bt451.2.2) bt447.1 bt447.2.1)))))
theorem laws_FnReadDeed.mono_l : ∀ k, (∀ y0 y1 y2 y3 y4, LeO (laws_FnReadDeed.j0 k y0 y1 y2 y3 y4) (laws_FnReadDeed.j0 (k + 1) y0 y1 y2 y3 y4))
 | 0 => fun _ _ _ _ _ r h => by simp [laws_FnReadDeed.j0] at h
 | k + 1 => by
  have ih0 := laws_FnReadDeed.mono_l k
  ·intro y0 y1 y2 y3 y4
   unfold laws_FnReadDeed.j0
   repeat' first
   | (with_reducible exact ih0 _ _ _ _ _)
   | (with_reducible exact impl_DeedText.mono _ _ _)
   | (with_reducible exact impl_ReadDeed.mono _ _)
   | (with_reducible exact spec_DrawReadDeed.mono _ _)
   | (with_reducible exact spec_ReadDeed.mono _ _)
   | (with_reducible exact LeO.refl _)
   | (with_reducible exact LeO.none _)
   | (with_reducible refine LeO.ite ?_ ?_)
   | (with_reducible refine LeO.bind ?_ (fun _ => ?_))
   | refine LeO.ite ?_ ?_
   | refine LeO.bind ?_ (fun _ => ?_)
theorem laws_FnReadDeed.mono : ∀ a0 k, LeO (laws_FnReadDeed.f k a0) (laws_FnReadDeed.f (k + 1) a0) := by
 intro a0 k
 have ih0 := laws_FnReadDeed.mono_l k
 unfold laws_FnReadDeed.f
 repeat' first
   | (with_reducible exact ih0 _ _ _ _ _)
   | (with_reducible exact impl_DeedText.mono _ _ _)
   | (with_reducible exact impl_ReadDeed.mono _ _)
   | (with_reducible exact spec_DrawReadDeed.mono _ _)
   | (with_reducible exact spec_ReadDeed.mono _ _)
   | (with_reducible exact LeO.refl _)
   | (with_reducible exact LeO.none _)
   | (with_reducible refine LeO.ite ?_ ?_)
   | (with_reducible refine LeO.bind ?_ (fun _ => ?_))
   | refine LeO.ite ?_ ?_
   | refine LeO.bind ?_ (fun _ => ?_)
set_option maxHeartbeats 8000000 in
set_option maxRecDepth 100000 in
theorem laws_FnReadDeed.calls (k : Nat) (A0 : Option Addr) (c0 : Nat) (l0 : List Int) (r : Bool) (w : World) (hr0 : Kd.C (Kd.int .u8) w A0 l0.length l0) (hc0 : l0.length ≤ c0) (h : laws_FnReadDeed.f k l0 = some r) :
  Calls Try.prog 10 #[.slice A0 l0.length c0] w fun e w' => e = .returned (.bool r) ∧ Below w.heap.size w w' := by
 have hu26 := Try.underlying26
 have HR0 := Asd.mk hr0
 have HC0 := Asd.mk hc0
 clear hr0 hc0
 have HB := Asd.mk (Below.refl w.heap.size w)
 have H : (if (l0.length : Int) > 1048576 then (some true) else ((spec_DrawReadDeed.f k l0).bind fun t446 => ((impl_ReadDeed.f k t446).bind fun bt447 => ((spec_ReadDeed.f k t446).bind fun bt451 => (if (!(bt447.1 == bt451.1) || (!(bt447.2.1.toList == bt451.2.1.toList))) = true then (laws_FnReadDeed.j0 k t446 bt447.2.2 true bt447.1 bt447.2.1) else (laws_FnReadDeed.j0 k t446 bt447.2.2 (bt447.2.2 != bt451.2.2) bt447.1 bt447.2.1)))))) = some r := h
 clear h
 by_cases c2 : (l0.length : Int) > 1048576
 ·rw [if_pos c2] at H
  have c2b0 : decide (1048576 < (l0.length : Int)) = true := decide_eq_true c2
  have c2b1 : decide (1048576 < l0.length) = true := decide_eq_true (by omega)
  clear c2
  obtain rfl := Option.some.inj H
  go_enter Try.func10, Try.ntmps10
  go_wp2
  go_ret
  exact ⟨by first | rfl | (simp [*, errW_none, errW_some] <;> rfl), by repeat (with_reducible first | exact HB.out | apply bwX)⟩
 ·rw [if_neg c2] at H
  have c2b0 : decide (1048576 < (l0.length : Int)) = false := decide_eq_false c2
  have c2b1 : decide (1048576 < l0.length) = false := decide_eq_false (by omega)
  clear c2
  replace H := Option.bind_eq_some_iff.mp H
  obtain ⟨t446, A30, H⟩ := H
  try dsimp only at H
  have A3 := Asd.mk A30
  clear A30
  replace H := Option.bind_eq_some_iff.mp H
  obtain ⟨⟨t447, t448, t449⟩, A40, H⟩ := H
  try dsimp only at H
  have A4 := Asd.mk A40
  clear A40
  replace H := Option.bind_eq_some_iff.mp H
  obtain ⟨⟨t451, t452, t453⟩, A50, H⟩ := H
  try dsimp only at H
  have A5 := Asd.mk A50
  clear A50
  have HC6 := Asd.mk H
  clear H
  go_enter Try.func10, Try.ntmps10
  go_upto_region 6 with (first | ((with_reducible refine gate_callee (f := 50) rfl ?_); refine gsM (some 14) rfl rfl Try.func50 (by kernel_rfl) rfl #[.slice A0 l0.length c0] rfl ?_; (with_reducible refine (spec_DrawReadDeed.calls k _ _ l0 t446 _ ?side1 ?side2 A3.out).mono ?_); (case side1 => repeat (first | exact HR0.out | (with_reducible refine Kd.C_alloc ?_ _) | (with_reducible refine Kd.C_drewN ?_ _) | (with_reducible refine Kd.C_drew ?_))); (case side2 => exact HC0.out); rintro e w7 ⟨rfl, hb⟩; refine ⟨_, rfl, ?_⟩; have n0_ := Asd.mk (bwP (by repeat (with_reducible first | exact HB.out | apply bwX)) hb); clear HB; have HB := n0_; clear n0_; (try clear hb); (try clear hb2); (try clear hk); (try clear hi)) | ((with_reducible refine gate_callee (f := 29) rfl ?_); refine gsM (some 17) rfl rfl Try.func29 (by kernel_rfl) rfl #[.string t446] rfl ?_; (with_reducible refine (impl_ReadDeed.calls k t446 t447 t448 t449 _ A4.out).mono ?_); rintro e w8 ⟨rfl, hb⟩; refine ⟨_, rfl, ?_⟩; have n0_ := Asd.mk (bwP (by repeat (with_reducible first | exact HB.out | apply bwX)) hb); clear HB; have HB := n0_; clear n0_; (try clear hb); (try clear hb2); (try clear hk); (try clear hi)) | ((with_reducible refine gate_dst (N := 4) rfl ?_); refine bxE ?hg (N := 4) ?hd (cs := #[.int .i64 0, .string (⟨#[]⟩ : ByteArray)]) (t := 26) ?hr ?_; (case hd => rfl); (case hg => rfl); (case hr => first | (go_simp; done) | (go_simp; rfl)); intro gb450 hg w9 hbox hb; have n0_ := Asd.mk (bwP (by repeat (with_reducible first | exact HB.out | apply bwX)) hb); have n1_ := Asd.mk (hbox); have n2_ := Asd.mk ((by rw [hg]; exact (below_size (by repeat (with_reducible first | exact HB.out | apply bwX))) : w.heap.size ≤ gb450)); have n3_ := Asd.mk ((by rw [hg]; exact (below_size (by repeat (with_reducible first | exact HB.out | apply bwX))) : w.heap.size ≤ gb450)); clear HB; have HB := n0_; have BK450 := n1_; have GW450 := n2_; have GE450 := n3_; clear n0_ n1_ n2_ n3_; clear hb hbox hg; have hcz10_0 : w9.cell? ⟨gb450, 0, none⟩ = some (.int .i64 0) := (bkC BK450.out 0).trans rfl; have hcz10_1 : w9.cell? ⟨gb450, 1, none⟩ = some (.string (⟨#[]⟩ : ByteArray)) := (bkC BK450.out 1).trans rfl; have hfz10_0 := bkF BK450.out 0; have hfz10_1 := bkF BK450.out 1) | ((with_reducible refine gate_callee (f := 28) rfl ?_); refine gsM (some 22) rfl rfl Try.func28 (by kernel_rfl) rfl #[.string t446] rfl ?_; (with_reducible refine (spec_ReadDeed.calls k t446 t451 t452 t453 _ A5.out).mono ?_); rintro e w11 ⟨rfl, hb⟩; refine ⟨_, rfl, ?_⟩; have n0_ := Asd.mk (bkB (g := gb450) (o := .cells #[.int .i64 t447, .string t448] 26 (0, 0)) (by (repeat apply bkS); refine bkP (cs := #[.int .i64 t447, .string (⟨#[]⟩ : ByteArray)]) ?_ 1 _ rfl; (repeat apply bkS); refine bkP (cs := #[.int .i64 0, .string (⟨#[]⟩ : ByteArray)]) ?_ 0 _ rfl; (repeat apply bkS); exact BK450.out) hb); have n1_ := Asd.mk (bwP (by repeat (with_reducible first | exact HB.out | apply bwX | refine bwS ?_ GE450.out)) hb); clear BK450; clear HB; have BK450 := n0_; have HB := n1_; clear n0_ n1_; (try clear hb); (try clear hb2); (try clear hk); (try clear hi)) | ((with_reducible refine gate_dst (N := 6) rfl ?_); refine bxE ?hg (N := 6) ?hd (cs := #[.int .i64 0, .string (⟨#[]⟩ : ByteArray)]) (t := 26) ?hr ?_; (case hd => rfl); (case hg => rfl); (case hr => first | (go_simp; done) | (go_simp; rfl)); intro gb454 hg w12 hbox hb; have n0_ := Asd.mk (bkB (g := gb450) (o := .cells #[.int .i64 t447, .string t448] 26 (0, 0)) (by (repeat apply bkS); exact BK450.out) hb); have n1_ := Asd.mk (bwP (by repeat (with_reducible first | exact HB.out | apply bwX | refine bwS ?_ GE450.out)) hb); have n2_ := Asd.mk (hbox); have n3_ := Asd.mk ((by rw [hg]; exact (below_size (by repeat (with_reducible first | exact HB.out | apply bwX | refine bwS ?_ GE450.out))) : w.heap.size ≤ gb454)); have n4_ := Asd.mk ((by rw [hg]; exact (below_size (by repeat (with_reducible first | exact HB.out | apply bwX | refine bwS ?_ GE450.out))) : w.heap.size ≤ gb454)); have n5_ := Asd.mk ((by rw [hg]; exact Nat.ne_of_lt (bkL (g := gb450) (o := .cells #[.int .i64 t447, .string t448] 26 (0, 0)) (by (repeat apply bkS); exact BK450.out)) : gb450 ≠ gb454)); have n6_ := Asd.mk ((by rw [hg]; exact Nat.ne_of_gt (bkL (g := gb450) (o := .cells #[.int .i64 t447, .string t448] 26 (0, 0)) (by (repeat apply bkS); exact BK450.out)) : gb454 ≠ gb450)); clear BK450; clear HB; have BK450 := n0_; have HB := n1_; have BK454 := n2_; have GW454 := n3_; have GE454 := n4_; have NB450_454 := n5_; have NB454_450 := n6_; clear n0_ n1_ n2_ n3_ n4_ n5_ n6_; clear hb hbox hg; have hnb13 := NB454_450.out; have hnc13 := NB450_454.out; have hcz14_0 : w12.cell? ⟨gb454, 0, none⟩ = some (.int .i64 0) := (bkC BK454.out 0).trans rfl; have hcz14_1 : w12.cell? ⟨gb454, 1, none⟩ = some (.string (⟨#[]⟩ : ByteArray)) := (bkC BK454.out 1).trans rfl; have hfz14_0 := bkF BK454.out 0; have hfz14_1 := bkF BK454.out 1))
  (try simp only [Act.put, qA, qB, qC])
  go_cut [32] (fun v32 wc => ∃ (kq : Nat) (x32_5 : Bool), v32 = .bool x32_5 ∧ Asd (laws_FnReadDeed.j0 kq t446 t449 x32_5 t447 t448 = some r) ∧ Asd (kq ≤ k) ∧ Asd (wc.heap[gb450]? = some (.cells #[.int .i64 t447, .string t448] 26 (0, 0))) ∧ Asd (wc.heap[gb454]? = some (.cells #[.int .i64 t451, .string t452] 26 (0, 0))) ∧ Asd (Below w.heap.size w wc))
  case first =>
   have H := HC6.out
   clear HC6
   by_cases c15 : (!(t447 == t451) || (!(t448.toList == t452.toList))) = true
   ·rw [if_pos c15] at H
    have c15b0 : (!(t447 == t451) || (!(t448.toList == t452.toList))) = true := c15
    clear c15
    (first | rw [c15b0] | (simp only [i64_w, i32_w]; rw [c15b0]) | skip)
    have H' := Asd.mk H
    clear H
    have hnb16 := NB450_454.out
    have hnc16 := NB454_450.out
    have hcz17_0 : w12.cell? ⟨gb450, 0, none⟩ = some (.int .i64 t447) := (bkC BK450.out 0).trans rfl
    have hcz17_1 : w12.cell? ⟨gb450, 1, none⟩ = some (.string t448) := (bkC BK450.out 1).trans rfl
    have hfz17_0 := bkF BK450.out 0
    have hfz17_1 := bkF BK450.out 1
    have hcz18_0 : w12.cell? ⟨gb454, 0, none⟩ = some (.int .i64 0) := (bkC BK454.out 0).trans rfl
    have hcz18_1 : w12.cell? ⟨gb454, 1, none⟩ = some (.string (⟨#[]⟩ : ByteArray)) := (bkC BK454.out 1).trans rfl
    have hfz18_0 := bkF BK454.out 0
    have hfz18_1 := bkF BK454.out 1
    go_wp2
    go_meet
    case rel => exact ⟨_, (true), (by first | rfl | (simp; done) | (simp [*]; done)), H', ⟨by first | omega | exact Nat.le_refl _⟩, ⟨by (repeat apply bkS); refine bkR ?_ NB450_454.out _; (repeat apply bkS); refine bkR ?_ NB450_454.out _; (repeat apply bkS); exact BK450.out⟩, ⟨by (repeat apply bkS); refine bkP (cs := #[.int .i64 t451, .string (⟨#[]⟩ : ByteArray)]) ?_ 1 _ rfl; (repeat apply bkS); refine bkP (cs := #[.int .i64 0, .string (⟨#[]⟩ : ByteArray)]) ?_ 0 _ rfl; (repeat apply bkS); exact BK454.out⟩, ⟨by repeat (with_reducible first | exact HB.out | apply bwX | refine bwS ?_ GE450.out | refine bwS ?_ GE454.out)⟩⟩
   ·rw [if_neg c15] at H
    have c15b0 : (!(t447 == t451) || (!(t448.toList == t452.toList))) = false := by simpa using c15
    clear c15
    (first | rw [c15b0] | (simp only [i64_w, i32_w]; rw [c15b0]) | skip)
    have H' := Asd.mk H
    clear H
    have hnb19 := NB450_454.out
    have hnc19 := NB454_450.out
    have hcz20_0 : w12.cell? ⟨gb450, 0, none⟩ = some (.int .i64 t447) := (bkC BK450.out 0).trans rfl
    have hcz20_1 : w12.cell? ⟨gb450, 1, none⟩ = some (.string t448) := (bkC BK450.out 1).trans rfl
    have hfz20_0 := bkF BK450.out 0
    have hfz20_1 := bkF BK450.out 1
    have hcz21_0 : w12.cell? ⟨gb454, 0, none⟩ = some (.int .i64 0) := (bkC BK454.out 0).trans rfl
    have hcz21_1 : w12.cell? ⟨gb454, 1, none⟩ = some (.string (⟨#[]⟩ : ByteArray)) := (bkC BK454.out 1).trans rfl
    have hfz21_0 := bkF BK454.out 0
    have hfz21_1 := bkF BK454.out 1
    go_wp2
    go_meet
    case rel => exact ⟨_, ((t449 != t453)), (by first | rfl | (simp; done) | (simp [*]; done)), H', ⟨by first | omega | exact Nat.le_refl _⟩, ⟨by (repeat apply bkS); refine bkR ?_ NB450_454.out _; (repeat apply bkS); refine bkR ?_ NB450_454.out _; (repeat apply bkS); exact BK450.out⟩, ⟨by (repeat apply bkS); refine bkP (cs := #[.int .i64 t451, .string (⟨#[]⟩ : ByteArray)]) ?_ 1 _ rfl; (repeat apply bkS); refine bkP (cs := #[.int .i64 0, .string (⟨#[]⟩ : ByteArray)]) ?_ 0 _ rfl; (repeat apply bkS); exact BK454.out⟩, ⟨by repeat (with_reducible first | exact HB.out | apply bwX | refine bwS ?_ GE450.out | refine bwS ?_ GE454.out)⟩⟩
  case rest =>
   clear HC6
   obtain ⟨kq, x32_5, rfl, HA, HJ5, BK450, BK454, HB⟩ := hcut
   cases kq with
   | zero => exact absurd HA.out (by simp [laws_FnReadDeed.j0])
   | succ kj5 =>
    have H := HA.out
    clear HA
    simp only [laws_FnReadDeed.j0] at H
    by_cases c22 : x32_5 = true
    ·subst c22
     rw [if_pos rfl] at H
     obtain rfl := Option.some.inj H
     go_wp2
     go_ret
     exact ⟨by first | rfl | (simp [*, errW_none, errW_some] <;> rfl), by repeat (with_reducible first | exact HB.out | apply bwX | refine bwS ?_ GE450.out | refine bwS ?_ GE454.out)⟩
    ·replace c22 := Bool.eq_false_iff.mpr c22
     subst c22
     rw [if_neg (show ¬ (false = true) by decide)] at H
     by_cases c23 : t449 = true
     ·subst c23
      rw [if_pos rfl] at H
      by_cases c24 : t446.size + 1 ≤ 9223372036854775807; rotate_left; (rw [if_neg c24] at H; exact absurd H (by simp))
      rw [if_pos c24] at H
      have c24b0 := eq_true c24
      have c24b1 : decide (t446.size + 1 ≤ 9223372036854775807) = true := decide_eq_true c24
      try have c24b2 : (9223372036854775807 < t446.size + 1) = False := eq_false (Nat.not_lt.2 c24)
      replace H := Option.bind_eq_some_iff.mp H
      obtain ⟨⟨t455, t456, t457⟩, A250, H⟩ := H
      try dsimp only at H
      have A25 := Asd.mk A250
      clear A250
      replace H := Option.bind_eq_some_iff.mp H
      obtain ⟨t459, A260, H⟩ := H
      try dsimp only at H
      have A26 := Asd.mk A260
      clear A260
      by_cases c27 : t459.toList = t446.toList
      ·rw [if_pos c27] at H
       have c27b0 : (t459.toList == t446.toList) = true := beq_iff_eq.mpr c27
       have c27b1 : (t459.toList != t446.toList) = false := bne_eq_false_iff_eq.mpr c27
       clear c27
       obtain rfl := Option.some.inj H
       go_wp2_with (first | ((with_reducible refine gate_callee (f := 29) rfl ?_); refine gsM (some 44) rfl rfl Try.func29 (by kernel_rfl) rfl #[.string (t446 ++ (⟨#[10]⟩ : ByteArray))] rfl ?_; (with_reducible refine (impl_ReadDeed.calls kj5 (t446 ++ (⟨#[10]⟩ : ByteArray)) t455 t456 t457 _ A25.out).mono ?_); rintro e w28 ⟨rfl, hb⟩; refine ⟨_, rfl, ?_⟩; have n0_ := Asd.mk (bkB (g := gb450) (o := .cells #[.int .i64 t447, .string t448] 26 (0, 0)) (by (repeat apply bkS); exact BK450.out) hb); have n1_ := Asd.mk (bkB (g := gb454) (o := .cells #[.int .i64 t451, .string t452] 26 (0, 0)) (by (repeat apply bkS); exact BK454.out) hb); have n2_ := Asd.mk (bwP (by repeat (with_reducible first | exact HB.out | apply bwX | refine bwS ?_ GE450.out | refine bwS ?_ GE454.out)) hb); clear BK450; clear BK454; clear HB; have BK450 := n0_; have BK454 := n1_; have HB := n2_; clear n0_ n1_ n2_; (try clear hb); (try clear hb2); (try clear hk); (try clear hi)) | ((with_reducible refine gate_dst (N := 8) rfl ?_); refine bxE ?hg (N := 8) ?hd (cs := #[.int .i64 0, .string (⟨#[]⟩ : ByteArray)]) (t := 26) ?hr ?_; (case hd => rfl); (case hg => rfl); (case hr => first | (go_simp; done) | (go_simp; rfl)); intro gb458 hg w29 hbox hb; have n0_ := Asd.mk (bkB (g := gb450) (o := .cells #[.int .i64 t447, .string t448] 26 (0, 0)) (by (repeat apply bkS); exact BK450.out) hb); have n1_ := Asd.mk (bkB (g := gb454) (o := .cells #[.int .i64 t451, .string t452] 26 (0, 0)) (by (repeat apply bkS); exact BK454.out) hb); have n2_ := Asd.mk (bwP (by repeat (with_reducible first | exact HB.out | apply bwX | refine bwS ?_ GE450.out | refine bwS ?_ GE454.out)) hb); have n3_ := Asd.mk (hbox); have n4_ := Asd.mk ((by rw [hg]; exact (below_size (by repeat (with_reducible first | exact HB.out | apply bwX | refine bwS ?_ GE450.out | refine bwS ?_ GE454.out))) : w.heap.size ≤ gb458)); have n5_ := Asd.mk ((by rw [hg]; exact (below_size (by repeat (with_reducible first | exact HB.out | apply bwX | refine bwS ?_ GE450.out | refine bwS ?_ GE454.out))) : w.heap.size ≤ gb458)); have n6_ := Asd.mk ((by rw [hg]; exact Nat.ne_of_lt (bkL (g := gb450) (o := .cells #[.int .i64 t447, .string t448] 26 (0, 0)) (by (repeat apply bkS); exact BK450.out)) : gb450 ≠ gb458)); have n7_ := Asd.mk ((by rw [hg]; exact Nat.ne_of_gt (bkL (g := gb450) (o := .cells #[.int .i64 t447, .string t448] 26 (0, 0)) (by (repeat apply bkS); exact BK450.out)) : gb458 ≠ gb450)); have n8_ := Asd.mk ((by rw [hg]; exact Nat.ne_of_lt (bkL (g := gb454) (o := .cells #[.int .i64 t451, .string t452] 26 (0, 0)) (by (repeat apply bkS); exact BK454.out)) : gb454 ≠ gb458)); have n9_ := Asd.mk ((by rw [hg]; exact Nat.ne_of_gt (bkL (g := gb454) (o := .cells #[.int .i64 t451, .string t452] 26 (0, 0)) (by (repeat apply bkS); exact BK454.out)) : gb458 ≠ gb454)); clear BK450; clear BK454; clear HB; have BK450 := n0_; have BK454 := n1_; have HB := n2_; have BK458 := n3_; have GW458 := n4_; have GE458 := n5_; have NB450_458 := n6_; have NB458_450 := n7_; have NB454_458 := n8_; have NB458_454 := n9_; clear n0_ n1_ n2_ n3_ n4_ n5_ n6_ n7_ n8_ n9_; clear hb hbox hg; have hnb30 := NB458_450.out; have hnc30 := NB450_458.out; have hnb31 := NB458_454.out; have hnc31 := NB454_458.out; have hcz32_0 : w29.cell? ⟨gb458, 0, none⟩ = some (.int .i64 0) := (bkC BK458.out 0).trans rfl; have hcz32_1 : w29.cell? ⟨gb458, 1, none⟩ = some (.string (⟨#[]⟩ : ByteArray)) := (bkC BK458.out 1).trans rfl; have hfz32_0 := bkF BK458.out 0; have hfz32_1 := bkF BK458.out 1; have hnb33 := NB450_454.out; have hnc33 := NB454_450.out; have hcz34_0 : w29.cell? ⟨gb450, 0, none⟩ = some (.int .i64 t447) := (bkC BK450.out 0).trans rfl; have hcz34_1 : w29.cell? ⟨gb450, 1, none⟩ = some (.string t448) := (bkC BK450.out 1).trans rfl; have hfz34_0 := bkF BK450.out 0; have hfz34_1 := bkF BK450.out 1) | ((with_reducible refine gate_callee (f := 22) rfl ?_); refine gsM (some 48) rfl rfl Try.func22 (by kernel_rfl) rfl #[.agg #[.int .i64 t447, .string t448]] rfl ?_; (with_reducible refine (impl_DeedText.calls kj5 t447 t448 t459 _ A26.out).mono ?_); rintro e w35 ⟨rfl, hb⟩; refine ⟨_, rfl, ?_⟩; have n0_ := Asd.mk (bkB (g := gb450) (o := .cells #[.int .i64 t447, .string t448] 26 (0, 0)) (by (repeat apply bkS); refine bkR ?_ NB450_458.out _; (repeat apply bkS); refine bkR ?_ NB450_458.out _; (repeat apply bkS); exact BK450.out) hb); have n1_ := Asd.mk (bkB (g := gb454) (o := .cells #[.int .i64 t451, .string t452] 26 (0, 0)) (by (repeat apply bkS); refine bkR ?_ NB454_458.out _; (repeat apply bkS); refine bkR ?_ NB454_458.out _; (repeat apply bkS); exact BK454.out) hb); have n2_ := Asd.mk (bkB (g := gb458) (o := .cells #[.int .i64 t455, .string t456] 26 (0, 0)) (by (repeat apply bkS); refine bkP (cs := #[.int .i64 t455, .string (⟨#[]⟩ : ByteArray)]) ?_ 1 _ rfl; (repeat apply bkS); refine bkP (cs := #[.int .i64 0, .string (⟨#[]⟩ : ByteArray)]) ?_ 0 _ rfl; (repeat apply bkS); exact BK458.out) hb); have n3_ := Asd.mk (bwP (by repeat (with_reducible first | exact HB.out | apply bwX | refine bwS ?_ GE450.out | refine bwS ?_ GE454.out | refine bwS ?_ GE458.out)) hb); clear BK450; clear BK454; clear BK458; clear HB; have BK450 := n0_; have BK454 := n1_; have BK458 := n2_; have HB := n3_; clear n0_ n1_ n2_ n3_; (try clear hb); (try clear hb2); (try clear hk); (try clear hi)))
       go_ret
       exact ⟨by first | rfl | (simp [*, errW_none, errW_some] <;> rfl), by repeat (with_reducible first | exact HB.out | apply bwX | refine bwS ?_ GE450.out | refine bwS ?_ GE454.out | refine bwS ?_ GE458.out)⟩
      ·rw [if_neg c27] at H
       have c27b0 : (t459.toList == t446.toList) = false := beq_eq_false_iff_ne.mpr c27
       have c27b1 : (t459.toList != t446.toList) = true := bne_iff_ne.mpr c27
       obtain rfl := Option.some.inj H
       go_wp2_with (first | ((with_reducible refine gate_callee (f := 29) rfl ?_); refine gsM (some 44) rfl rfl Try.func29 (by kernel_rfl) rfl #[.string (t446 ++ (⟨#[10]⟩ : ByteArray))] rfl ?_; (with_reducible refine (impl_ReadDeed.calls kj5 (t446 ++ (⟨#[10]⟩ : ByteArray)) t455 t456 t457 _ A25.out).mono ?_); rintro e w36 ⟨rfl, hb⟩; refine ⟨_, rfl, ?_⟩; have n0_ := Asd.mk (bkB (g := gb450) (o := .cells #[.int .i64 t447, .string t448] 26 (0, 0)) (by (repeat apply bkS); exact BK450.out) hb); have n1_ := Asd.mk (bkB (g := gb454) (o := .cells #[.int .i64 t451, .string t452] 26 (0, 0)) (by (repeat apply bkS); exact BK454.out) hb); have n2_ := Asd.mk (bwP (by repeat (with_reducible first | exact HB.out | apply bwX | refine bwS ?_ GE450.out | refine bwS ?_ GE454.out)) hb); clear BK450; clear BK454; clear HB; have BK450 := n0_; have BK454 := n1_; have HB := n2_; clear n0_ n1_ n2_; (try clear hb); (try clear hb2); (try clear hk); (try clear hi)) | ((with_reducible refine gate_dst (N := 8) rfl ?_); refine bxE ?hg (N := 8) ?hd (cs := #[.int .i64 0, .string (⟨#[]⟩ : ByteArray)]) (t := 26) ?hr ?_; (case hd => rfl); (case hg => rfl); (case hr => first | (go_simp; done) | (go_simp; rfl)); intro gb458 hg w37 hbox hb; have n0_ := Asd.mk (bkB (g := gb450) (o := .cells #[.int .i64 t447, .string t448] 26 (0, 0)) (by (repeat apply bkS); exact BK450.out) hb); have n1_ := Asd.mk (bkB (g := gb454) (o := .cells #[.int .i64 t451, .string t452] 26 (0, 0)) (by (repeat apply bkS); exact BK454.out) hb); have n2_ := Asd.mk (bwP (by repeat (with_reducible first | exact HB.out | apply bwX | refine bwS ?_ GE450.out | refine bwS ?_ GE454.out)) hb); have n3_ := Asd.mk (hbox); have n4_ := Asd.mk ((by rw [hg]; exact (below_size (by repeat (with_reducible first | exact HB.out | apply bwX | refine bwS ?_ GE450.out | refine bwS ?_ GE454.out))) : w.heap.size ≤ gb458)); have n5_ := Asd.mk ((by rw [hg]; exact (below_size (by repeat (with_reducible first | exact HB.out | apply bwX | refine bwS ?_ GE450.out | refine bwS ?_ GE454.out))) : w.heap.size ≤ gb458)); have n6_ := Asd.mk ((by rw [hg]; exact Nat.ne_of_lt (bkL (g := gb450) (o := .cells #[.int .i64 t447, .string t448] 26 (0, 0)) (by (repeat apply bkS); exact BK450.out)) : gb450 ≠ gb458)); have n7_ := Asd.mk ((by rw [hg]; exact Nat.ne_of_gt (bkL (g := gb450) (o := .cells #[.int .i64 t447, .string t448] 26 (0, 0)) (by (repeat apply bkS); exact BK450.out)) : gb458 ≠ gb450)); have n8_ := Asd.mk ((by rw [hg]; exact Nat.ne_of_lt (bkL (g := gb454) (o := .cells #[.int .i64 t451, .string t452] 26 (0, 0)) (by (repeat apply bkS); exact BK454.out)) : gb454 ≠ gb458)); have n9_ := Asd.mk ((by rw [hg]; exact Nat.ne_of_gt (bkL (g := gb454) (o := .cells #[.int .i64 t451, .string t452] 26 (0, 0)) (by (repeat apply bkS); exact BK454.out)) : gb458 ≠ gb454)); clear BK450; clear BK454; clear HB; have BK450 := n0_; have BK454 := n1_; have HB := n2_; have BK458 := n3_; have GW458 := n4_; have GE458 := n5_; have NB450_458 := n6_; have NB458_450 := n7_; have NB454_458 := n8_; have NB458_454 := n9_; clear n0_ n1_ n2_ n3_ n4_ n5_ n6_ n7_ n8_ n9_; clear hb hbox hg; have hnb38 := NB458_450.out; have hnc38 := NB450_458.out; have hnb39 := NB458_454.out; have hnc39 := NB454_458.out; have hcz40_0 : w37.cell? ⟨gb458, 0, none⟩ = some (.int .i64 0) := (bkC BK458.out 0).trans rfl; have hcz40_1 : w37.cell? ⟨gb458, 1, none⟩ = some (.string (⟨#[]⟩ : ByteArray)) := (bkC BK458.out 1).trans rfl; have hfz40_0 := bkF BK458.out 0; have hfz40_1 := bkF BK458.out 1; have hnb41 := NB450_454.out; have hnc41 := NB454_450.out; have hcz42_0 : w37.cell? ⟨gb450, 0, none⟩ = some (.int .i64 t447) := (bkC BK450.out 0).trans rfl; have hcz42_1 : w37.cell? ⟨gb450, 1, none⟩ = some (.string t448) := (bkC BK450.out 1).trans rfl; have hfz42_0 := bkF BK450.out 0; have hfz42_1 := bkF BK450.out 1) | ((with_reducible refine gate_callee (f := 22) rfl ?_); refine gsM (some 48) rfl rfl Try.func22 (by kernel_rfl) rfl #[.agg #[.int .i64 t447, .string t448]] rfl ?_; (with_reducible refine (impl_DeedText.calls kj5 t447 t448 t459 _ A26.out).mono ?_); rintro e w43 ⟨rfl, hb⟩; refine ⟨_, rfl, ?_⟩; have n0_ := Asd.mk (bkB (g := gb450) (o := .cells #[.int .i64 t447, .string t448] 26 (0, 0)) (by (repeat apply bkS); refine bkR ?_ NB450_458.out _; (repeat apply bkS); refine bkR ?_ NB450_458.out _; (repeat apply bkS); exact BK450.out) hb); have n1_ := Asd.mk (bkB (g := gb454) (o := .cells #[.int .i64 t451, .string t452] 26 (0, 0)) (by (repeat apply bkS); refine bkR ?_ NB454_458.out _; (repeat apply bkS); refine bkR ?_ NB454_458.out _; (repeat apply bkS); exact BK454.out) hb); have n2_ := Asd.mk (bkB (g := gb458) (o := .cells #[.int .i64 t455, .string t456] 26 (0, 0)) (by (repeat apply bkS); refine bkP (cs := #[.int .i64 t455, .string (⟨#[]⟩ : ByteArray)]) ?_ 1 _ rfl; (repeat apply bkS); refine bkP (cs := #[.int .i64 0, .string (⟨#[]⟩ : ByteArray)]) ?_ 0 _ rfl; (repeat apply bkS); exact BK458.out) hb); have n3_ := Asd.mk (bwP (by repeat (with_reducible first | exact HB.out | apply bwX | refine bwS ?_ GE450.out | refine bwS ?_ GE454.out | refine bwS ?_ GE458.out)) hb); clear BK450; clear BK454; clear BK458; clear HB; have BK450 := n0_; have BK454 := n1_; have BK458 := n2_; have HB := n3_; clear n0_ n1_ n2_ n3_; (try clear hb); (try clear hb2); (try clear hk); (try clear hi)))
       go_ret
       exact ⟨by first | rfl | (simp [*, errW_none, errW_some] <;> rfl), by repeat (with_reducible first | exact HB.out | apply bwX | refine bwS ?_ GE450.out | refine bwS ?_ GE454.out | refine bwS ?_ GE458.out)⟩
     ·replace c23 := Bool.eq_false_iff.mpr c23
      subst c23
      rw [if_neg (show ¬ (false = true) by decide)] at H
      by_cases c44 : (t447 == 0 && (t448.toList == ([] : List UInt8))) = true
      ·rw [if_pos c44] at H
       have c44b0 : (t447 == 0 && (t448.toList == ([] : List UInt8))) = true := c44
       try have c44b7 : (t447 == 0 && t448.toList.isEmpty) = true := by have h_ := c44b0; (repeat rw [Hof.isEmpty_beq]); exact h_
       (try (have c44b1 : decide (t447 = 0 && (t448.toList == ([] : List UInt8))) = true := by simpa using c44))
       (try (have c44b2 : (t447 == 0 && (t448.toList == ([] : List UInt8))) = true := by simpa using c44))
       clear c44
       replace H := Option.bind_eq_some_iff.mp H
       obtain ⟨t460, A450, H⟩ := H
       try dsimp only at H
       have A45 := Asd.mk A450
       clear A450
       obtain rfl := Option.some.inj H
       have hnb46 := NB450_454.out
       have hnc46 := NB454_450.out
       have hcz47_0 : wc.cell? ⟨gb450, 0, none⟩ = some (.int .i64 t447) := (bkC BK450.out 0).trans rfl
       have hcz47_1 : wc.cell? ⟨gb450, 1, none⟩ = some (.string t448) := (bkC BK450.out 1).trans rfl
       have hfz47_0 := bkF BK450.out 0
       have hfz47_1 := bkF BK450.out 1
       go_wp2_with (first | (go_at_call 38; (with_reducible refine (laws_alive.calls  t460 _ A45.out).mono ?_); rintro e w' ⟨rfl, ⟨nd, rfl⟩⟩))
       go_ret
       exact ⟨by first | rfl | (simp [*, errW_none, errW_some] <;> rfl), by repeat (with_reducible first | exact HB.out | apply bwX | refine bwS ?_ GE450.out | refine bwS ?_ GE454.out)⟩
      ·rw [if_neg c44] at H
       have c44b0 : (t447 == 0 && (t448.toList == ([] : List UInt8))) = false := by simpa using c44
       try have c44b7 : (t447 == 0 && t448.toList.isEmpty) = false := by have h_ := c44b0; (repeat rw [Hof.isEmpty_beq]); exact h_
       (try (have c44b1 : decide (t447 = 0 && (t448.toList == ([] : List UInt8))) = false := by simpa using c44))
       (try (have c44b2 : (t447 == 0 && (t448.toList == ([] : List UInt8))) = false := by simpa using c44))
       (try (have c44b3 : ¬ (t447 = 0 && (t448.toList == ([] : List UInt8))) := by simpa using c44))
       clear c44
       obtain rfl := Option.some.inj H
       have hnb48 := NB450_454.out
       have hnc48 := NB454_450.out
       have hcz49_0 : wc.cell? ⟨gb450, 0, none⟩ = some (.int .i64 t447) := (bkC BK450.out 0).trans rfl
       have hcz49_1 : wc.cell? ⟨gb450, 1, none⟩ = some (.string t448) := (bkC BK450.out 1).trans rfl
       have hfz49_0 := bkF BK450.out 0
       have hfz49_1 := bkF BK450.out 1
       go_wp2
       go_ret
       exact ⟨by first | rfl | (simp [*, errW_none, errW_some] <;> rfl), by repeat (with_reducible first | exact HB.out | apply bwX | refine bwS ?_ GE450.out | refine bwS ?_ GE454.out)⟩

/-- THE ONE PURE STATEMENT of laws_FnReadDeed: yours. -/
def laws_FnReadDeed.Pure : Prop := ∀ (l0 : List Int), l0.length ≤ maxLen → l0.length * 1 ≤ 140737488351232 → (∀ x ∈ l0, (Lit.int .u8 x).wf = true) → ∃ k, laws_FnReadDeed.f k l0 = some true
theorem laws_FnReadDeed.walk (P : laws_FnReadDeed.Pure) (a0 : Option Addr) (len0 cap0 : Nat) (z0 : List Int) (w : World) (w0 : (a0 = none ∧ len0 = 0 ∧ cap0 = 0 ∧ z0 = []) ∨ ∃ x, a0 = some x ∧ len0 ≤ cap0 ∧ cap0 ≤ maxLen ∧ z0.length = cap0 ∧ (∀ i, i < z0.length → w.cell? (x.add i) = some (.int .u8 (z0.getD i 0))) ∧ ∀ n ∈ z0, (Lit.int .u8 n).wf = true) (y0 : len0 * 1 ≤ 140737488351232) :
  Calls Try.prog 10 #[.slice a0 len0 cap0] w fun e w' => e = .returned (.bool true) ∧ Below w.heap.size w w' := by
 obtain ⟨l0, rfl, hr0, hm0, hw0, hc0⟩ := ReadsInt.ofRowC w0
 obtain ⟨k, h⟩ := P l0 hm0 y0 hw0
 refine (laws_FnReadDeed.calls k _ _ l0 true w (Kd.C_of_reads (d := (0 : Int)) (h1 := fun _ => rfl) hr0) hc0 h).mono ?_
 rintro e w' ⟨rfl, hd⟩
 exact ⟨rfl, hd⟩

end Go.Proofs.Ytihgpkohglcijaa.P
