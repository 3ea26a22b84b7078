-- Written by a program of this session (wip/hook.py), which runs the kit's printer; Lean checks it.
import Derived.Test.YteiehniidihmdaaPx0
import Derived.Test.YteiehniidihmdaaPx1
import Derived.Test.YteiehniidihmdaaPx7
namespace Go.Proofs.Yteiehniidihmdaa.P
open Go.RowKit Go.Proofs.YteiehniidihmdaaW.PrintWords Go.Proofs.YteiehniidihmdaaW.PrintLast Go.Proofs.YteiehniidihmdaaW.PrintMore
attribute [local go_sem] max2_int min2_int max_two min_two max_three min_three max_four min_four   -- for this text's walks alone
set_option linter.unusedVariables false
set_option linter.unusedSimpArgs false

/-! ### impl_leastThat: function 84 (by hand) -/
def impl_leastThat.i (p : Int → Option Bool) (x : Int) : Nat → Int → Bool → Option Bool
  | 0, _, b => some b
  | n + 1, i, b => if b = true then (if Go.bits .and .i64 (shr .i64 x i) 1 = 1 then (p (Go.bits .xor .i64 x (shl .i64 1 i))).bind fun t => impl_leastThat.i p x n (i + 1) (!t) else impl_leastThat.i p x n (i + 1) true) else impl_leastThat.i p x n (i + 1) false
def impl_leastThat.l (p : Int → Option Bool) (m : Nat) : Nat → Int → List Int → Option (List Int)
  | 0, _, out => some out
  | n + 1, x, out => (p x).bind fun b => (impl_leastThat.i p x m 0 b).bind fun t => impl_leastThat.l p m n (x + 1) (if t = true then out ++ [x] else out)
def impl_leastThat.f (p : Int → Option Bool) (many : Int) : Option (List Int) := if 0 ≤ many then (if many ≤ 6 then impl_leastThat.l p many.toNat (2 ^ many.toNat) 0 [] else none) else none
theorem impl_leastThat.i_le {p q : Int → Option Bool} (h : ∀ x, LeO (p x) (q x)) (x : Int) : ∀ n i b, LeO (impl_leastThat.i p x n i b) (impl_leastThat.i q x n i b)
  | 0, _, _ => LeO.refl _
  | n + 1, i, b => by
    unfold impl_leastThat.i
    exact LeO.ite (LeO.ite (LeO.bind (h _) (fun t => impl_leastThat.i_le h x n _ _)) (impl_leastThat.i_le h x n _ _)) (impl_leastThat.i_le h x n _ _)
theorem impl_leastThat.l_le {p q : Int → Option Bool} (h : ∀ x, LeO (p x) (q x)) (m : Nat) : ∀ n x out, LeO (impl_leastThat.l p m n x out) (impl_leastThat.l q m n x out)
  | 0, _, _ => LeO.refl _
  | n + 1, x, out => by
    unfold impl_leastThat.l
    exact LeO.bind (h _) (fun b => LeO.bind (impl_leastThat.i_le h x m 0 b) (fun t => impl_leastThat.l_le h m n _ _))
theorem impl_leastThat.f_le {p q : Int → Option Bool} (h : ∀ x, LeO (p x) (q x)) (many : Int) : LeO (impl_leastThat.f p many) (impl_leastThat.f q many) :=
  LeO.ite (LeO.ite (impl_leastThat.l_le h _ _ _ _) (LeO.refl _)) (LeO.refl _)
set_option maxHeartbeats 8000000 in
set_option maxRecDepth 100000 in
theorem impl_leastThat.calls (g : Nat) (lb : Array Value) (eg : ∀ args w, (callFunc g args).run Try.prog w = .ok (.enter g args) w) (p : Int → Option Bool)
    (many : Int) (r : List Int) (w : World) (hp : Hof.GivesI g lb p w) (h : impl_leastThat.f p many = some r) :
    Calls Try.prog 84 #[.int .i64 many, .func (.func g) #[] lb] w fun e w' => ∃ v0_ : Value, e = .returned (v0_) ∧ Kd.R (Kd.int .i64) 3 w' w.heap.size (fun _ => True) v0_ r ∧ Below w.heap.size w w' := by
  have HP := Aside0.mk hp
  clear hp
  have HB := Aside0.mk (Below.refl w.heap.size w)
  have h2 : 0 ≤ many ∧ many ≤ 6 ∧ impl_leastThat.l p many.toNat (2 ^ many.toNat) 0 [] = some r := by
    unfold impl_leastThat.f at h
    by_cases a : 0 ≤ many
    · rw [if_pos a] at h
      by_cases b : many ≤ 6
      · rw [if_pos b] at h
        exact ⟨a, b, h⟩
      · rw [if_neg b] at h
        cases h
    · rw [if_neg a] at h
      cases h
  clear h
  obtain ⟨h0, h6, h⟩ := h2
  obtain ⟨m, rfl⟩ := Int.eq_ofNat_of_zero_le h0
  rw [Int.toNat_natCast] at h
  have hN : ((2 ^ m : Nat) : Int) ≤ 64 ∧ IntKind.i64.wrap (2 ^ min m 64) = ((2 ^ m : Nat) : Int) := by
    rcases (by omega : m = 0 ∨ m = 1 ∨ m = 2 ∨ m = 3 ∨ m = 4 ∨ m = 5 ∨ m = 6) with rfl | rfl | rfl | rfl | rfl | rfl | rfl <;> exact ⟨by decide, by decide +kernel⟩
  obtain ⟨N, eN⟩ : ∃ N : Nat, N = 2 ^ m := ⟨_, rfl⟩
  rw [← eN] at hN h
  obtain ⟨hN8, hN2⟩ := hN
  have hNw : wrap64 (2 ^ min m 64) = (N : Int) := (i64_w _).symm.trans hN2
  obtain ⟨y1, hy1⟩ : ∃ y_ : List Int, y_ = [] := ⟨_, rfl⟩
  have H' : Aside0 (impl_leastThat.l p m N 0 y1 = some r) := ⟨by rw [hy1]; exact h⟩
  have Ny1 := Aside0.mk hy1
  have Hl : Aside0 ((y1.length : Int) ≤ 0) := ⟨by rw [hy1]; simp⟩
  have pb0 := eq_true h0
  have H6 := Aside0.mk h6
  clear h h0 h6 eN hy1
  go_enter Try.func84, Try.ntmps84
  go_wp2_with (first | ((with_reducible refine gate_dst (N := 9) rfl ?_); refine Kd.R_lit (Kd.int .i64) _ 3 ?hg (N := 9) ?hd (xs := ([] : List Int)) (inner := []) (ok := fun _ => True) (okp := fun _ => True) ?hr ?hp (fun _ hk => hk) trivial (Below.refl _ _) (Nat.le_refl _) (by simp) ?_; (case hd => rfl); (case hg => rfl); (case hr => first | (go_simp; done) | (go_simp; rfl)); (case hp => exact (Reps.none _ _)); intro v338 w5 ho6 hb hg_ hnew_; clear hg_ hnew_; (first | rw [← Ny1.out] at ho6 | (simp only [Int.reduceToNat] at ho6; rw [← Ny1.out] at ho6)); have n0_ := Aside0.mk (Kd.R_lower ho6 (below_size (by repeat (first | (with_reducible first | exact HB.out | apply below_alloc | apply pw_below_drewN | apply below_drew1) | exact HB.out)))); have n1_ := Aside0.mk (below_step (by repeat (first | (with_reducible first | exact HB.out | apply below_alloc | apply pw_below_drewN | apply below_drew1) | exact HB.out)) hb); clear HB; have HO339 := n0_; have HB := n1_; clear n0_ n1_; clear hb ho6))
  go_loopg [5, 12] N (fun gg s5 s12 wr => ∃ (n : Nat) (x : Int) (out : List Int), 0 ≤ x ∧ x + n = (N : Int) ∧ n ≤ gg ∧ s12 = .int .i64 x ∧ Aside0 ((out.length : Int) ≤ x) ∧ Aside0 (Below w.heap.size w wr) ∧ Aside0 (Kd.R (Kd.int .i64) 3 wr w.heap.size (fun _ => True) s5 out) ∧ Aside0 (impl_leastThat.l p m n x out = some r))
  case atStart => exact ⟨N, 0, y1, by omega, by omega, Nat.le_refl _, rfl, Hl, ⟨by repeat (first | (with_reducible first | exact HB.out | apply below_alloc | apply pw_below_drewN | apply below_drew1) | exact HB.out)⟩, ⟨by (with_reducible repeat (first | apply Kd.R_alloc | apply Kd.R_drewN | apply Kd.R_drew)); exact HO339.out⟩, H'⟩
  case round =>
    clear H' Hl Ny1
    obtain ⟨n, x, out, hx0, hxn, hg, rfl, HL, HB, HO, HA⟩ := hrel
    cases n with
    | zero =>
      have hge : ¬ x < (N : Int) := by omega
      obtain rfl : out = r := by have := HA.out; simpa [impl_leastThat.l] using this
      clear HA hN2 hNw HP
      go_wp2
      go_ret
      exact ⟨_, rfl, HO.out, HB.out⟩
    | succ n =>
      have hlt : x < (N : Int) := by omega
      have hx64 : x ≤ 63 := by omega
      obtain ⟨b, hb, hrest⟩ := Option.bind_eq_some_iff.mp (show ((p x).bind fun b => (impl_leastThat.i p x m 0 b).bind fun t => impl_leastThat.l p m n (x + 1) (if t = true then out ++ [x] else out)) = some r from HA.out)
      obtain ⟨t, ht, hrest⟩ := Option.bind_eq_some_iff.mp hrest
      have hcall := HP.out wr x b HB.out hb
      have HRest := Aside0.mk hrest
      have HT : Aside0 (impl_leastThat.i p x m 0 b = some t) := ⟨ht⟩
      clear hrest hb HA hN2 hNw ht
      go_wp2_with fail
      refine hcall.mono ?_
      rintro e w1 ⟨rfl, hb1⟩
      have HB1 : Aside0 (Below w.heap.size w w1) := ⟨below_then HB.out HB.out.size hb1⟩
      have HO1 := Aside0.mk (Kd.R_below HO.out hb1)
      clear hcall hb1 HB HO
      go_wp2_with fail
      go_loopg [7, 19] m (fun gg s7 s19 wi => ∃ (q : Nat) (i : Int) (c : Bool), 0 ≤ i ∧ i + q = (m : Int) ∧ q ≤ gg ∧ s7 = .bool c ∧ s19 = .int .i64 i ∧ Aside0 (Below w.heap.size w wi) ∧ Aside0 (Kd.R (Kd.int .i64) 3 wi w.heap.size (fun _ => True) u5 out) ∧ Aside0 (impl_leastThat.i p x q i c = some t))
      case atStart => exact ⟨m, 0, b, by omega, by omega, Nat.le_refl _, rfl, rfl, HB1, HO1, HT⟩
      case round =>
        clear HT HB1 HO1
        obtain ⟨q, i, c, hi0, hiq, hgi, rfl, rfl, HB, HO, HA⟩ := hrel
        cases q with
        | zero =>
          have hgei : ¬ i < (m : Int) := by omega
          obtain rfl : c = t := by have := HA.out; simpa [impl_leastThat.i] using this
          clear HA HP
          cases c with
          | true =>
            obtain ⟨y2, hy2⟩ : ∃ y_ : List Int, y_ = out ++ [x] := ⟨_, rfl⟩
            have HR2 : Aside0 (impl_leastThat.l p m n (x + 1) y2 = some r) := ⟨by have := HRest.out; rw [if_pos rfl] at this; rw [hy2]; exact this⟩
            have HL2 : Aside0 ((y2.length : Int) ≤ x + 1) := ⟨by rw [hy2, List.length_append]; have := HL.out; simp; omega⟩
            have Ny2 := Aside0.mk hy2
            clear HRest hy2
            go_wp2_with (first | ((with_reducible refine gate_builtin (b := .append) (xs := #[.tmp 40, .tmp 42]) rfl ?_); at_builtin; refine Kd.R_append (Kd.int .i64) (w0 := w) w.heap.size rfl (.tmp 40) (.tmp 42) 22 3 (.int .i64 0) 8 rfl Try.underlying22 info3 rfl (by decide) (by omega) u5 out x [.int .i64 x] (fun _ => True) (fun _ => False) rfl rfl ?aP (fun _ hk => hk.elim) ?aF ?aO ?aB ?aS ?aL ?_; (case aP => exact rfl); (case aB => exact (by repeat (first | (with_reducible first | exact HB.out | apply below_alloc | apply pw_below_drewN | apply below_drew1) | exact HB.out))); (case aF => exact (fun _ _ => trivial)); (case aO => exact (by (with_reducible repeat (first | apply Kd.R_alloc | apply Kd.R_drewN | apply Kd.R_drew)); exact HO.out)); (case aS => exact (below_size (by repeat (first | (with_reducible first | exact HB.out | apply below_alloc | apply pw_below_drewN | apply below_drew1) | exact HB.out)))); (case aL => have := HL.out; omega); intro v343 w19 ho hb hg_ hat; rw [← Ny2.out] at ho; have n0_ := Aside0.mk (hb); have n1_ := Aside0.mk (ho); clear HB; clear HO; have HB := n0_; have HO := n1_; clear n0_ n1_; clear ho hb hg_ hat))
            go_roundg n
            case measure => omega
            case rel => exact ⟨n, x + 1, y2, by omega, by omega, Nat.le_refl _, by go_num, HL2, HB, HO, HR2⟩
          | false =>
            have HR2 : Aside0 (impl_leastThat.l p m n (x + 1) out = some r) := ⟨by have := HRest.out; simpa using this⟩
            have HL2 : Aside0 ((out.length : Int) ≤ x + 1) := ⟨by have := HL.out; omega⟩
            clear HRest
            go_wp2
            go_roundg n
            case measure => omega
            case rel => exact ⟨n, x + 1, out, by omega, by omega, Nat.le_refl _, by go_num, HL2, HB, HO, HR2⟩
        | succ q =>
          have hlti : i < (m : Int) := by omega
          have hi6 : i ≤ 5 := by have := H6.out; omega
          have hA : (if c = true then (if Go.bits .and .i64 (shr .i64 x i) 1 = 1 then (p (Go.bits .xor .i64 x (shl .i64 1 i))).bind fun t => impl_leastThat.i p x q (i + 1) (!t) else impl_leastThat.i p x q (i + 1) true) else impl_leastThat.i p x q (i + 1) false) = some t := HA.out
          clear HA
          cases c with
          | false =>
            have HR2 : Aside0 (impl_leastThat.i p x q (i + 1) false = some t) := ⟨by simpa using hA⟩
            clear hA HP
            go_wp2
            go_roundg q
            case measure => omega
            case rel => exact ⟨q, i + 1, false, by omega, by omega, Nat.le_refl _, rfl, by go_num, HB, HO, HR2⟩
          | true =>
            rw [if_pos rfl] at hA
            have pi := eq_true hi0
            obtain ⟨j, hj⟩ : ∃ j : Int, shr .i64 x i = j := ⟨_, rfl⟩
            rw [hj] at hA
            have hj_ : (x / 2 ^ min i.toNat 64) = j := hj
            have hjz : (x / 2 ^ i.toNat) = j := shr_small hj (by simp [IntKind.bits]; omega)
            clear hj
            by_cases c12 : (Go.bits .and .i64 j 1) = 1
            · rw [if_pos c12] at hA
              have c12b0 : ((Go.bits .and .i64 j 1) == 1) = true := beq_iff_eq.mpr c12
              clear c12
              obtain ⟨s, hs⟩ : ∃ s : Int, shl .i64 1 i = s := ⟨_, rfl⟩
              rw [hs] at hA
              have hs1 : IntKind.i64.wrap (2 ^ min i.toNat 64) = s := by have h_ : IntKind.i64.wrap (1 * 2 ^ min i.toNat 64) = s := hs; rw [Int.one_mul] at h_; exact h_
              have hs2 : IntKind.i64.wrap (2 ^ i.toNat) = s := by rw [← hs1, show min i.toNat 64 = i.toNat from by omega]
              have hs3 : wrap64 (2 ^ i.toNat) = s := (i64_w _).symm.trans hs2
              have hs4 : wrap64 (2 ^ min i.toNat 64) = s := (i64_w _).symm.trans hs1
              clear hs
              obtain ⟨d, hd, hrest⟩ := Option.bind_eq_some_iff.mp hA
              clear hA
              have hcall := HP.out wr (Go.bits .xor .i64 x s) d HB.out hd
              clear hd HP
              cases d with
              | true =>
                have HR2 : Aside0 (impl_leastThat.i p x q (i + 1) false = some t) := ⟨hrest⟩
                clear hrest
                go_wp2_with fail
                refine hcall.mono ?_
                rintro e w1 ⟨rfl, hb1⟩
                have HB1 : Aside0 (Below w.heap.size w w1) := ⟨below_then HB.out HB.out.size hb1⟩
                have HO1 := Aside0.mk (Kd.R_below HO.out hb1)
                clear hcall hb1 HB HO
                go_wp2_with fail
                go_roundg q
                case measure => omega
                case rel => exact ⟨q, i + 1, false, by omega, by omega, Nat.le_refl _, rfl, by go_num, HB1, HO1, HR2⟩
              | false =>
                have HR2 : Aside0 (impl_leastThat.i p x q (i + 1) true = some t) := ⟨hrest⟩
                clear hrest
                go_wp2_with fail
                refine hcall.mono ?_
                rintro e w1 ⟨rfl, hb1⟩
                have HB1 : Aside0 (Below w.heap.size w w1) := ⟨below_then HB.out HB.out.size hb1⟩
                have HO1 := Aside0.mk (Kd.R_below HO.out hb1)
                clear hcall hb1 HB HO
                go_wp2_with fail
                go_roundg q
                case measure => omega
                case rel => exact ⟨q, i + 1, true, by omega, by omega, Nat.le_refl _, rfl, by go_num, HB1, HO1, HR2⟩
            · rw [if_neg c12] at hA
              have c12b0 : ((Go.bits .and .i64 j 1) == 1) = false := beq_eq_false_iff_ne.mpr c12
              clear c12
              have HR2 : Aside0 (impl_leastThat.i p x q (i + 1) true = some t) := ⟨hA⟩
              clear hA HP
              go_wp2
              go_roundg q
              case measure => omega
              case rel => exact ⟨q, i + 1, true, by omega, by omega, Nat.le_refl _, rfl, by go_num, HB, HO, HR2⟩

/-! ### spec_l9Tells: function 91 -/
def spec_l9Tells.f (k : Nat) (a0 : Int) (l1 : List Int) (a2 : Int) (a3 : Int) : Option (Bool) := (spec_l9Worlds.f k a0 l1 a2).bind fun t372 => ((spec_l1Both.f k t372 a3).bind fun t373 => (some (t373 == t372)))
theorem spec_l9Tells.mono : ∀ a0 a1 a2 a3 k, LeO (spec_l9Tells.f k a0 a1 a2 a3) (spec_l9Tells.f (k + 1) a0 a1 a2 a3) := by
  intro a0 a1 a2 a3 k
  unfold spec_l9Tells.f
  repeat' first
      | (with_reducible exact spec_l1Both.mono _ _ _)
      | (with_reducible exact spec_l9Worlds.mono _ _ _ _)
      | (with_reducible exact LeO.refl _)
      | (with_reducible exact LeO.none _)
      | (with_reducible refine LeO.ite ?_ ?_)
      | (with_reducible refine LeO.bind ?_ (fun _ => ?_))
      | exact spec_l1Both.mono _ _ _
      | exact spec_l9Worlds.mono _ _ _ _
      | exact LeO.none _
      | refine LeO.ite ?_ ?_
      | refine LeO.bind ?_ (fun _ => ?_)
set_option maxHeartbeats 8000000 in
set_option maxRecDepth 100000 in
theorem spec_l9Tells.calls (k : Nat) (a0 : Int) (A1 : Option Addr) (c1 : Nat) (l1 : List Int) (a2 : Int) (a3 : Int) (r : Bool) (w : World) (hr1 : Kd.C (Kd.int .i64) w A1 l1.length l1) (hc1 : l1.length ≤ c1) (h : spec_l9Tells.f k a0 l1 a2 a3 = some r) :
    Calls Try.prog 91 #[.int .i64 a0, .slice A1 l1.length c1, .int .i64 a2, .int .i64 a3] w fun e w' => e = .returned (.bool r) ∧ Drawn0 w w' := by
  have HR1 := Aside0.mk hr1
  have HC1 := Aside0.mk hc1
  clear hr1 hc1
  have H : ((spec_l9Worlds.f k a0 l1 a2).bind fun t372 => ((spec_l1Both.f k t372 a3).bind fun t373 => (some (t373 == t372)))) = some r := h
  clear h
  replace H := Option.bind_eq_some_iff.mp H
  obtain ⟨t372, A50, H⟩ := H
  replace H : ((spec_l1Both.f k t372 a3).bind fun t373 => (some (t373 == t372))) = some r := H
  have A5 := Aside0.mk A50
  clear A50
  replace H := Option.bind_eq_some_iff.mp H
  obtain ⟨t373, A60, H⟩ := H
  replace H : (some (t373 == t372)) = some r := H
  have A6 := Aside0.mk A60
  clear A60
  obtain rfl := Option.some.inj H
  go_enter Try.func91, Try.ntmps91
  go_wp2_with (first | ((with_reducible refine gate_callee (f := 79) rfl ?_); refine goesL_ (some 13) rfl rfl Try.func79 (by kernel_rfl) rfl #[.int .i64 a0, .slice A1 l1.length c1, .int .i64 a2] rfl (by (try simp only [List.map_toArray, List.map_cons, List.map_nil]); first | done | rfl | (simp only [List.length_drop, List.length_take]; rfl)) ?_; (with_reducible refine (spec_l9Worlds.calls k a0 _ _ l1 a2 t372 _ ?side1 ?side2 A5.out).mono ?_); (case side1 => repeat (first | exact HR1.out | (with_reducible refine Kd.C_alloc ?_ _) | (with_reducible refine Kd.C_drewN ?_ _) | (with_reducible refine Kd.C_drew ?_))); (case side2 => exact HC1.out); rintro e w' ⟨rfl, ⟨nd, rfl⟩⟩; refine ⟨_, rfl, ?_⟩) | ((with_reducible refine gate_callee (f := 77) rfl ?_); refine goesL_ (some 16) rfl rfl Try.func77 (by kernel_rfl) rfl #[.int .i64 t372, .int .i64 a3] rfl (by (try simp only [List.map_toArray, List.map_cons, List.map_nil]); first | done | rfl | (simp only [List.length_drop, List.length_take]; rfl)) ?_; (with_reducible refine (spec_l1Both.calls k t372 a3 t373 _ A6.out).mono ?_); rintro e w' ⟨rfl, ⟨nd, rfl⟩⟩; refine ⟨_, rfl, ?_⟩))
  go_ret
  exact ⟨by first | rfl | (simp; done) | (simp [*]; done), by repeat (first | exact Drawn0.refl _ | apply Drawn0.step)⟩

/-! ### laws_whole: function 57 -/
def laws_whole.f (a0 : Int) : Option (Int) := if 0 ≤ (IntKind.u64.wrap (2 ^ (mn (mx a0 0) 3).toNat)) then (some (wrap64 ((shl .i64 1 (IntKind.u64.wrap (2 ^ (mn (mx a0 0) 3).toNat))) - 1))) else (none)
set_option maxHeartbeats 8000000 in
set_option maxRecDepth 100000 in
theorem laws_whole.calls (a0 : Int) (r : Int) (w : World) (h : laws_whole.f a0 = some r) :
    Calls Try.prog 57 #[.int .i64 a0] w fun e w' => e = .returned (.int .i64 r) ∧ Below w.heap.size w w' := by
  have HB := Aside0.mk (Below.refl w.heap.size w)
  have H : (if 0 ≤ (IntKind.u64.wrap (2 ^ (mn (mx a0 0) 3).toNat)) then (some (wrap64 ((shl .i64 1 (IntKind.u64.wrap (2 ^ (mn (mx a0 0) 3).toNat))) - 1))) else (none)) = some r := h
  clear h
  obtain ⟨ji2, hji2⟩ : ∃ j_ : Int, (mx a0 0) = j_ := ⟨_, rfl⟩
  replace H : (if 0 ≤ (IntKind.u64.wrap (2 ^ (mn (ji2) 3).toNat)) then (some (wrap64 ((shl .i64 1 (IntKind.u64.wrap (2 ^ (mn (ji2) 3).toNat))) - 1))) else (none)) = some r := by first | (rw [hji2] at H; exact H) | (simp only [hji2] at H ⊢; exact H)
  (try (have hji2l : 0 ≤ ji2 := by (rw [← hji2]; unfold mx; (repeat' split) <;> omega)))
  (try (have hji2m : 0 ≤ ji2 := by omega))
  have hji2_ : (if a0 < 0 then 0 else a0) = ji2 := hji2
  obtain ⟨ji3, hji3⟩ : ∃ j_ : Int, (mn (ji2) 3) = j_ := ⟨_, rfl⟩
  replace H : (if 0 ≤ (IntKind.u64.wrap (2 ^ (ji3).toNat)) then (some (wrap64 ((shl .i64 1 (IntKind.u64.wrap (2 ^ (ji3).toNat))) - 1))) else (none)) = some r := by first | (rw [hji3] at H; exact H) | (simp only [hji3] at H ⊢; exact H)
  have hji3_ : (if 3 < (ji2) then 3 else (ji2)) = ji3 := hji3
  have hji3b : ji3 ≤ 3 := by rw [← hji3_]; split <;> omega
  have hji3g : ji3 ≤ 64 := by omega
  obtain ⟨ji4, hji4⟩ : ∃ j_ : Int, (IntKind.u64.wrap (2 ^ (ji3).toNat)) = j_ := ⟨_, rfl⟩
  replace H : (if 0 ≤ (ji4) then (some (wrap64 ((shl .i64 1 (ji4)) - 1))) else (none)) = some r := by first | (rw [hji4] at H; exact H) | (simp only [hji4] at H ⊢; exact H)
  by_cases c5 : 0 ≤ (ji4)
  · rw [if_pos c5] at H
    have c5b0 := eq_true c5
    have c5b1 : decide (0 ≤ (ji4)) = true := decide_eq_true c5
    clear c5
    obtain ⟨ji6, hji6⟩ : ∃ j_ : Int, (shl .i64 1 (ji4)) = j_ := ⟨_, rfl⟩
    replace H : (some (wrap64 ((ji6) - 1))) = some r := by first | (rw [hji6] at H; exact H) | (simp only [hji6] at H ⊢; exact H)
    have hji6_ : (IntKind.i64.wrap (1 * 2 ^ min (ji4).toNat 64)) = ji6 := hji6
    have hji6z : (ji4) ≤ 64 → (IntKind.i64.wrap (1 * 2 ^ (ji4).toNat)) = ji6 := shl_small hji6
    have hji6u : (IntKind.i64.wrap (2 ^ min (ji4).toNat 64)) = ji6 := by have h_ := hji6_; rw [Int.one_mul] at h_; exact h_
    have hji6v : (ji4) ≤ 64 → (IntKind.i64.wrap (2 ^ (ji4).toNat)) = ji6 := fun hle_ => by have h_ := hji6z hle_; rw [Int.one_mul] at h_; exact h_
    have hji6y : (wrap64 (1 * 2 ^ min (ji4).toNat 64)) = ji6 := (i64_w _).symm.trans hji6_
    have hji6x : (ji4) ≤ 64 → (wrap64 (1 * 2 ^ (ji4).toNat)) = ji6 := fun h_ => (i64_w _).symm.trans (hji6z h_)
    obtain rfl := Option.some.inj H
    go_enter Try.func57, Try.ntmps57
    go_wp2
    go_ret
    exact ⟨by first | rfl | (simp [errW_none, errW_some] <;> rfl) | (simp only [← hji2, ← hji3, ← hji4, ← hji6]; first | rfl | (simp [errW_none, errW_some] <;> rfl)) | (simp [*, errW_none, errW_some] <;> rfl), by repeat (first | (with_reducible first | exact HB.out | apply below_alloc | apply pw_below_drewN | apply below_drew1) | exact HB.out)⟩
  · rw [if_neg c5] at H
    exact absurd H (by simp)

end Go.Proofs.Yteiehniidihmdaa.P
