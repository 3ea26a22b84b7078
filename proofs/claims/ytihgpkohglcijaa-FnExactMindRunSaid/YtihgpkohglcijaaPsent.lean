/- Plain laws: sentences: what the reference reads at a place of a text, as a function of its own. -/
import Derived.Test.YtihgpkohglcijaaPx12
import Derived.Test.YtihgpkohglcijaaPx13
import Derived.Test.YtihgpkohglcijaaPset
namespace Go.Proofs.Ytihgpkohglcijaa.Pl
open Go.RowKit Go.Proofs.YtihgpkohglcijaaW.PrintWords Go.Proofs.YtihgpkohglcijaaW.PrintLast Go.Proofs.YtihgpkohglcijaaW.PrintMore Go.Proofs.Ytihgpkohglcijaa.P Go.Proofs.Ytihgpkohglcijaa.Mt
def tset (c : Nat) : Nat → Nat
 | 0 => 0
 | w + 1 => tset c w + 2 ^ w * bi w c
theorem tset_lt (c : Nat) : ∀ w, tset c w < 2 ^ w
 | 0 => Nat.one_pos
 | w + 1 => by
  have h := tset_lt c w
  have hb : bi w c ≤ 1 := bi_le w c
  show tset c w + 2 ^ w * bi w c < _
  rw [Nat.pow_succ]
  have : 2 ^ w * bi w c ≤ 2 ^ w * 1 := Nat.mul_le_mul_left _ hb
  omega
theorem all_wn {t : Int} (h : 1 ≤ t ∧ t ≤ 3) : all t + 1 = 2 ^ wn t := by rcases three h with rfl | rfl | rfl <;> decide
theorem wn_8 (t : Int) : 2 ^ wn t ≤ 256 := Nat.pow_le_pow_right (n := 2) (by decide) (wn_le t).1
def opS (t : Int) (b : Int) (x y : Nat) : Option Nat := if b = 38 then some (x &&& y) else if b = 124 then some (x ||| y) else if b = 62 then some ((all t ^^^ x) ||| y) else none
def rdS (t : Int) (s : ByteArray) : Nat → Nat → Option (Nat × Nat)
 | 0, _ => none
 | n + 1, i => if i < s.size then
   (if bt s i = 49 then some (all t, i + 1) else if bt s i = 48 then some (0, i + 1)
   else if 97 ≤ bt s i ∧ bt s i - 97 < t then some (tset (bt s i - 97).toNat (wn t), i + 1)
   else if bt s i = 33 then (rdS t s n (i + 1)).map fun x => (all t ^^^ x.1, x.2)
   else if bt s i = 40 then (rdS t s n (i + 1)).bind fun x => if x.2 < s.size then (rdS t s n (x.2 + 1)).bind fun y => if y.2 < s.size ∧ bt s y.2 = 41 then (opS t (bt s x.2) x.1 y.1).map fun z => (z, y.2 + 1) else none else none
   else none) else none
theorem xor_lt {t : Int} (h : 1 ≤ t ∧ t ≤ 3) {a : Nat} (ha : a < 2 ^ wn t) : all t ^^^ a < 2 ^ wn t := Nat.xor_lt_two_pow (by have := all_wn h; omega) ha
theorem opS_lt {t : Int} (h : 1 ≤ t ∧ t ≤ 3) {b : Int} {x y z : Nat} (hx : x < 2 ^ wn t) (hy : y < 2 ^ wn t) (hz : opS t b x y = some z) : z < 2 ^ wn t := by
 unfold opS at hz
 split at hz
 ·cases hz; exact Nat.lt_of_le_of_lt Nat.and_le_left hx
 split at hz
 ·cases hz; exact Nat.or_lt_two_pow hx hy
 split at hz
 ·cases hz; exact Nat.or_lt_two_pow (xor_lt h hx) hy
 ·cases hz
theorem rdS_range {t : Int} (ht : 1 ≤ t ∧ t ≤ 3) (s : ByteArray) : ∀ (n i : Nat) (x : Nat × Nat), rdS t s n i = some x → x.1 < 2 ^ wn t ∧ i < x.2 ∧ x.2 ≤ s.size := by
 intro n
 induction n with
 | zero => intro i x h; cases h
 | succ n ih =>
  intro i x h
  unfold rdS at h
  by_cases hlt : i < s.size
  ·rw [if_pos hlt] at h
   split at h
   ·cases h; exact ⟨by have := all_wn ht; show all t < _; omega, by show i < i + 1; omega, by show i + 1 ≤ _; omega⟩
   split at h
   ·cases h; exact ⟨Nat.two_pow_pos _, by show i < i + 1; omega, by show i + 1 ≤ _; omega⟩
   split at h
   ·cases h; exact ⟨tset_lt _ _, by show i < i + 1; omega, by show i + 1 ≤ _; omega⟩
   split at h
   ·obtain ⟨y, hy, rfl⟩ := Option.map_eq_some_iff.1 h
    obtain ⟨a, b, c⟩ := ih _ _ hy
    exact ⟨xor_lt ht a, by show i < y.2; omega, c⟩
   split at h
   ·obtain ⟨y, hy, h⟩ := Option.bind_eq_some_iff.1 h
    obtain ⟨a, b, c⟩ := ih _ _ hy
    split at h
    ·obtain ⟨z, hz, h⟩ := Option.bind_eq_some_iff.1 h
     obtain ⟨a', b', c'⟩ := ih _ _ hz
     split at h
     ·rename_i hc
      obtain ⟨v, hv, rfl⟩ := Option.map_eq_some_iff.1 h
      exact ⟨opS_lt ht a a' hv, by show i < z.2 + 1; omega, by show z.2 + 1 ≤ _; omega⟩
     ·cases h
    ·cases h
   ·cases h
  ·rw [if_neg hlt] at h
   cases h
theorem sub_xor {t : Int} (ht : 1 ≤ t ∧ t ≤ 3) {a : Nat} (ha : a < 2 ^ wn t) : all t - a = all t ^^^ a := by
 rcases three ht with rfl | rfl | rfl
 ·exact (by decide : ∀ a : Fin 4, 3 - a.val = 3 ^^^ a.val) ⟨a, ha⟩
 ·exact (by decide : ∀ a : Fin 16, 15 - a.val = 15 ^^^ a.val) ⟨a, ha⟩
 ·exact (by decide +kernel : ∀ a : Fin 256, 255 - a.val = 255 ^^^ a.val) ⟨a, ha⟩
theorem add_and_or {a b : Nat} (ha : a < 256) (hb : b < 256) : a + b - (a &&& b) = a ||| b :=
 (by decide +kernel : ∀ a b : Fin 256, a.val + b.val - (a.val &&& b.val) = a.val ||| b.val) ⟨a, ha⟩ ⟨b, hb⟩
theorem either_ev {a b : Nat} (ha : a < 256) (hb : b < 256) : Ev (fun k => spec_l1Either.f k (a : Int) (b : Int)) ((a ||| b : Nat) : Int) := by
 refine Ev.bind (l1Both_ev (b := b) ha) (ev_eq (Ev.now _) ?_)
 have h1 : a &&& b ≤ a := Nat.and_le_left
 rw [← add_and_or ha hb, w64 (n := (a : Int) + b) (by omega) (by omega), w64 (by omega) (by omega)]
 omega
def outS : Option (Nat × Nat) → Int × Int
 | some x => ((x.1 : Int), (x.2 : Int))
 | none => (-1, -1)
theorem tset_step : ∀ c : Fin 3, ∀ w : Fin 8, wrap64 ((tset c.val w.val : Nat) + (shl .i64 (Int.tmod (shr .i64 (w.val : Int) (((97 + (c.val : Int)) - 97) % 256)) 2) (w.val : Int))) = ((tset c.val (w.val + 1) : Nat) : Int) := by decide +kernel
theorem sub9 {z i m n : Nat} (h : z - i ≤ n + 1) (h1 : i < m) : z - (m + 1) ≤ n := by omega
theorem le9 {z : Nat} (h : z ≤ 1000000000) : z ≤ 9223372036854775807 := by omega
set_option maxHeartbeats 2000000 in
theorem l1Read_ev {t : Int} (ht : 1 ≤ t ∧ t ≤ 3) (s : ByteArray) (hs : s.size ≤ 1000000000) : ∀ (n : Nat) (i : Nat), s.size - i ≤ n → Ev (fun k => spec_l1Read.f k t s (i : Int)) (outS (rdS t s n i)) := by
 intro n
 induction n with
 | zero =>
  intro i hi
  exact Ev.step (fun k => rfl) (ev_pos (by omega) (Ev.now _))
 | succ n ih =>
  intro i hi
  unfold rdS
  by_cases hge : (i : Int) ≥ (s.size : Int)
  ·rw [if_neg (by omega)]
   exact Ev.step (fun k => rfl) (ev_pos hge (Ev.now _))
  have hlt : i < s.size := by omega
  obtain ⟨al, eal⟩ : ∃ al : Int, al = ((all t : Nat) : Int) := ⟨_, rfl⟩
  have hal : spec_l1All.f t = some al := by rw [eal]; exact l1All_eq ht
  have e1 : wrap64 ((i : Int) + 1) = ((i + 1 : Nat) : Int) := w1 hlt (by omega)
  rw [if_pos hlt]
  by_cases h49 : bt s i = 49
  ·rw [if_pos h49]
   refine Ev.step (fun k => rfl) (ev_neg hge (ev_bindc (hal) (ev_pos (by omega) (ev_pos (by omega) (ev_pos h49 ?_)))))
   rw [e1, eal]
   exact Ev.now _
  rw [if_neg h49]
  by_cases h48 : bt s i = 48
  ·rw [if_pos h48]
   refine Ev.step (fun k => rfl) (ev_neg hge (ev_bindc (hal) (ev_pos (by omega) (ev_pos (by omega) (ev_neg h49 (ev_pos h48 ?_))))))
   rw [e1]
   exact Ev.now _
  rw [if_neg h48]
  have hb := bt_range s i
  by_cases hth : 97 ≤ bt s i ∧ bt s i - 97 < t
  ·rw [if_pos hth]
   refine Ev.step (fun k => rfl) (ev_neg hge (ev_bindc (hal) (ev_pos (by omega) (ev_pos (by omega) (ev_neg h49 (ev_neg h48 (ev_pos (by omega) ?_)))))))
   rw [decide_eq_true (by omega)]
   obtain ⟨c, hc⟩ : ∃ c : Nat, bt s i = 97 + (c : Int) := ⟨(bt s i - 97).toNat, by omega⟩
   have hc3 : c < 3 := by omega
   rw [show (bt s i - 97).toNat = c from by omega]
   have loop : ∀ w, w ≤ wn t → Ev (fun k => spec_l1Read.l0 k t s (i : Int) ((tset c w : Nat) : Int) (w : Int)) (((tset c (wn t) : Nat) : Int), ((i + 1 : Nat) : Int)) := by
    have hw := wn_le t
    apply down
    ·refine Ev.step (fun k => rfl) (ev_pos (by omega) (ev_neg (by rw [shl_wn ht]; omega) ?_))
     rw [e1]
     exact Ev.now _
    ·intro w hw' ih2
     refine Ev.step (fun k => rfl) (ev_pos (by omega) (ev_pos (by rw [shl_wn ht]; omega) (ev_pos (by omega) (ev_pos (by omega) (ev_pos (by omega) ?_)))))
     rw [w1 hw' (by omega), hc, tset_step ⟨c, hc3⟩ ⟨w, by omega⟩]
     exact ih2
   exact Ev.step (f := fun k => spec_l1Read.l0 k t s (i : Int) 0 0) (fun k => rfl) (loop 0 (Nat.zero_le _))
  rw [if_neg hth]
  have st : ∀ {g : Nat → Option (Int × Int)} {r} {al : Int}, (∀ k, g k = (if 0 ≤ (i : Int) then (if (i : Int) < (s.size : Int) then (if (bt s i) = 33 then ((spec_l1Read.f k t s (wrap64 ((i : Int) + 1))).bind fun bt324 => (if bt324.2 < 0 then (some ((-1), (-1))) else (some (wrap64 (al - bt324.1), bt324.2)))) else (if (bt s i) = 40 then ((spec_l1Read.f k t s (wrap64 ((i : Int) + 1))).bind fun bt326 => (if bt326.2 < 0 then (spec_l1Read.j2 k t s al bt326.1 bt326.2 true) else (spec_l1Read.j2 k t s al bt326.1 bt326.2 (decide (bt326.2 ≥ (s.size : Int)))))) else (some ((-1), (-1))))) else (none)) else (none))) → Ev g r → Ev (fun k => spec_l1Read.j0 k t s (i : Int) al false) r := fun hg h => Ev.step (fun k => (hg k).symm) h
  have go : ∀ {r}, Ev (fun k => spec_l1Read.j0 k t s (i : Int) al false) r → Ev (fun k => spec_l1Read.f k t s (i : Int)) r := by
   intro r h
   refine Ev.step (fun k => rfl) (ev_neg hge (ev_bindc (hal) (ev_pos (by omega) (ev_pos (by omega) (ev_neg h49 (ev_neg h48 ?_))))))
   by_cases h97 : bt s i ≥ 97
   ·refine ev_pos h97 ?_
    rw [decide_eq_false (by omega)]
    exact h
   ·exact ev_neg h97 h
  refine go ?_
  have h1 := ih (i + 1) (by omega)
  by_cases h33 : bt s i = 33
  ·rw [if_pos h33]
   refine st (fun k => rfl) (ev_pos (by omega) (ev_pos (by omega) (ev_pos h33 ?_)))
   rw [e1]
   refine Ev.bind h1 ?_
   cases hr : rdS t s n (i + 1) with
   | none => exact ev_pos (by show (-1 : Int) < 0; omega) (Ev.now _)
   | some x =>
    obtain ⟨a, b, c⟩ := rdS_range ht s _ _ _ hr
    refine ev_neg (by show ¬ ((x.2 : Int) < 0); clear a; omega) (ev_eq (Ev.now _) ?_)
    show (wrap64 (al - (x.1 : Int)), (x.2 : Int)) = (((all t ^^^ x.1 : Nat) : Int), (x.2 : Int))
    have hle : x.1 ≤ all t := Nat.le_of_lt_succ (Nat.lt_of_lt_of_eq a (all_wn ht).symm)
    have ha8 := all_lt t
    rw [eal, ← sub_xor ht a, w64 (by clear a; omega) (by clear a; omega)]
    clear a
    congr 1
    omega
  rw [if_neg h33]
  by_cases h40 : bt s i = 40
  ·rw [if_pos h40]
   refine st (fun k => rfl) (ev_pos (Int.natCast_nonneg i) (ev_pos (Int.ofNat_lt.2 hlt) (ev_neg h33 (ev_pos h40 ?_))))
   rw [e1]
   refine Ev.bind h1 ?_
   have bad2 : ∀ a e : Int, Ev (fun k => spec_l1Read.j2 k t s al a e true) (-1, -1) := fun a e => Ev.step (f := fun _ => some (-1, -1)) (fun k => rfl) (Ev.now _)
   have bad3 : ∀ a e a2 e2 : Int, Ev (fun k => spec_l1Read.j3 k s al a e a2 e2 true) (-1, -1) := fun a e a2 e2 => Ev.step (f := fun _ => some (-1, -1)) (fun k => rfl) (Ev.now _)
   cases hr : rdS t s n (i + 1) with
   | none => exact ev_pos (by decide) (bad2 _ _)
   | some x =>
    obtain ⟨ra, rb, rc⟩ := rdS_range ht s _ _ _ hr
    obtain ⟨a1, m⟩ := x
    simp only at ra rb rc
    have ra8 : a1 < 256 := Nat.lt_of_lt_of_le ra (wn_8 t)
    replace ra : Asd (a1 < 2 ^ wn t) := ⟨ra⟩
    refine ev_neg (Int.not_lt.2 (Int.natCast_nonneg m)) ?_
    show Ev (fun k => spec_l1Read.j2 k t s al (a1 : Int) (m : Int) (decide ((m : Int) ≥ (s.size : Int)))) (outS (if m < s.size then (rdS t s n (m + 1)).bind fun y => if y.2 < s.size ∧ bt s y.2 = 41 then (opS t (bt s m) a1 y.1).map fun z => (z, y.2 + 1) else none else none))
    by_cases hm : m < s.size
    ·have hm1 : ¬ ((m : Int) ≥ (s.size : Int)) := Int.not_le.2 (Int.ofNat_lt.2 hm)
     rw [if_pos hm, decide_eq_false hm1]
     have em : wrap64 ((m : Int) + 1) = ((m + 1 : Nat) : Int) := w1 hm (le9 hs)
     have h2 := ih (m + 1) (sub9 hi (Nat.lt_of_succ_lt rb))
     refine Ev.step (f := fun k => (spec_l1Read.f k t s (wrap64 ((m : Int) + 1))).bind fun bt328 => (if bt328.2 < 0 then (spec_l1Read.j3 k s al (a1 : Int) (m : Int) bt328.1 bt328.2 true) else (if bt328.2 ≥ (s.size : Int) then (spec_l1Read.j3 k s al (a1 : Int) (m : Int) bt328.1 bt328.2 true) else (if 0 ≤ bt328.2 then (if bt328.2 < (s.size : Int) then (spec_l1Read.j3 k s al (a1 : Int) (m : Int) bt328.1 bt328.2 ((bt s bt328.2) != 41)) else (none)) else (none))))) (fun k => rfl) ?_
     rw [em]
     refine Ev.bind h2 ?_
     cases hr2 : rdS t s n (m + 1) with
     | none => exact ev_pos (by decide) (bad3 _ _ _ _)
     | some y =>
      obtain ⟨sa, sb, sc⟩ := rdS_range ht s _ _ _ hr2
      obtain ⟨a2, e⟩ := y
      simp only at sa sb sc
      have sa8 : a2 < 256 := Nat.lt_of_lt_of_le sa (wn_8 t)
      clear sa
      refine ev_neg (Int.not_lt.2 (Int.natCast_nonneg e)) ?_
      show Ev (fun k => if (e : Int) ≥ (s.size : Int) then (spec_l1Read.j3 k s al (a1 : Int) (m : Int) (a2 : Int) (e : Int) true) else (if 0 ≤ (e : Int) then (if (e : Int) < (s.size : Int) then (spec_l1Read.j3 k s al (a1 : Int) (m : Int) (a2 : Int) (e : Int) ((bt s e) != 41)) else (none)) else (none))) (outS (if e < s.size ∧ bt s e = 41 then (opS t (bt s m) a1 a2).map fun z => (z, e + 1) else none))
      by_cases he : e < s.size
      ·refine ev_neg (Int.not_le.2 (Int.ofNat_lt.2 he)) (ev_pos (Int.natCast_nonneg e) (ev_pos (Int.ofNat_lt.2 he) ?_))
       by_cases h41 : bt s e = 41
       ·rw [if_pos ⟨he, h41⟩, show (bt s e != 41) = false from by rw [h41]; rfl]
        have ee : wrap64 ((e : Int) + 1) = ((e + 1 : Nat) : Int) := w1 he (le9 hs)
        have st3 : ∀ {g : Nat → Option (Int × Int)} {r}, (∀ k, g k = (if 0 ≤ (m : Int) then (if (m : Int) < (s.size : Int) then (if (bt s m) = 38 then ((spec_l1Both.f k (a1 : Int) (a2 : Int)).bind fun t330 => (some (t330, wrap64 ((e : Int) + 1)))) else (if (bt s m) = 124 then ((spec_l1Either.f k (a1 : Int) (a2 : Int)).bind fun t331 => (some (t331, wrap64 ((e : Int) + 1)))) else (if (bt s m) = 62 then ((spec_l1Either.f k (wrap64 (al - (a1 : Int))) (a2 : Int)).bind fun t332 => (some (t332, wrap64 ((e : Int) + 1)))) else (some ((-1), (-1)))))) else (none)) else (none))) → Ev g r → Ev (fun k => spec_l1Read.j3 k s al (a1 : Int) (m : Int) (a2 : Int) (e : Int) false) r := fun hg h => Ev.step (fun k => (hg k).symm) h
        refine st3 (fun k => rfl) (ev_pos (Int.natCast_nonneg m) (ev_pos (Int.ofNat_lt.2 hm) ?_))
        rw [ee]
        unfold opS
        by_cases q1 : bt s m = 38
        ·rw [if_pos q1]
         exact ev_pos q1 (Ev.bind (l1Both_ev ra8) (Ev.now _))
        rw [if_neg q1]
        refine ev_neg q1 ?_
        by_cases q2 : bt s m = 124
        ·rw [if_pos q2]
         exact ev_pos q2 (Ev.bind (either_ev ra8 sa8) (Ev.now _))
        rw [if_neg q2]
        refine ev_neg q2 ?_
        by_cases q3 : bt s m = 62
        ·rw [if_pos q3]
         refine ev_pos q3 ?_
         have hx := xor_lt ht ra.out
         have hle : a1 ≤ all t := Nat.le_of_lt_succ (Nat.lt_of_lt_of_eq ra.out (all_wn ht).symm)
         have ha8 := all_lt t
         have ew : wrap64 (al - (a1 : Int)) = ((all t ^^^ a1 : Nat) : Int) := by rw [eal, ← sub_xor ht ra.out, w64 (by clear hx; omega) (by clear hx; omega)]; clear hx; omega
         rw [ew]
         exact Ev.bind (either_ev (Nat.lt_of_lt_of_le hx (wn_8 t)) sa8) (Ev.now _)
        rw [if_neg q3]
        exact ev_neg q3 (Ev.now _)
       ·rw [if_neg (fun k => h41 k.2), show (bt s e != 41) = true from bne_iff_ne.2 h41]
        exact bad3 _ _ _ _
      ·rw [if_neg (fun k => he k.1)]
       exact ev_pos (Int.ofNat_le.2 (Nat.le_of_not_lt he)) (bad3 _ _ _ _)
    ·have hm2 : (m : Int) ≥ (s.size : Int) := Int.ofNat_le.2 (Nat.le_of_not_lt hm)
     rw [if_neg hm, decide_eq_true hm2]
     exact bad2 _ _
  rw [if_neg h40]
  exact st (fun k => rfl) (ev_pos (Int.natCast_nonneg i) (ev_pos (Int.ofNat_lt.2 hlt) (ev_neg h33 (ev_neg h40 (Ev.now _)))))
def holds (t : Int) (s : ByteArray) : Int × Bool := if (1 ≤ t ∧ t ≤ 3) ∧ s.size ≤ 120 then (match rdS t s s.size 0 with | some x => if x.2 = s.size then ((x.1 : Int), true) else (-1, false) | none => (-1, false)) else (-1, false)
theorem holds_range {t : Int} {s : ByteArray} {a : Int} (h : holds t s = (a, true)) : (1 ≤ t ∧ t ≤ 3) ∧ 0 ≤ a ∧ a ≤ all t := by
 unfold holds at h
 split at h
 ·rename_i hc
  split at h
  ·rename_i x hx
   split at h
   ·obtain ⟨ra, _, _⟩ := rdS_range hc.1 s _ _ _ hx
    have := all_wn hc.1
    have : (x.1 : Int) = a := congrArg Prod.fst h
    exact ⟨hc.1, by omega, by omega⟩
   ·cases h
  ·cases h
 ·cases h
theorem spec_HoldsIn_ev (t : Int) (s : ByteArray) : Ev (fun k => spec_HoldsIn.f k t s) (holds t s) := by
 unfold spec_HoldsIn.f holds
 have bad : Ev (fun k => spec_HoldsIn.j0 k t s true) (-1, false) := Ev.step (f := fun _ => some (-1, false)) (fun k => rfl) (Ev.now _)
 by_cases ht : 1 ≤ t ∧ t ≤ 3
 ·by_cases hs : (s.size : Int) > 120
  ·rw [if_neg (by omega)]
   refine ev_bindc (l1In_eq _ _ _) (ev_pos (by simpa using ht) ?_)
   rw [decide_eq_true hs]
   exact bad
  ·rw [if_pos ⟨ht, by omega⟩]
   have h := l1Read_ev ht s (by omega) s.size 0 (by omega)
   refine ev_bindc (l1In_eq _ _ _) (ev_pos (by simpa using ht) ?_)
   rw [decide_eq_false hs]
   refine Ev.step (f := fun k => (spec_l1Read.f k t s 0).bind fun bt334 => (if bt334.2 = (s.size : Int) then (some (bt334.1, true)) else (some ((-1), false)))) (fun k => rfl) (Ev.bind h ?_)
   cases hr : rdS t s s.size 0 with
   | none => exact ev_neg (by show ¬ ((-1 : Int) = _); omega) (Ev.now _)
   | some x =>
    show Ev (fun k => if (x.2 : Int) = (s.size : Int) then (some ((x.1 : Int), true)) else (some ((-1), false))) (if x.2 = s.size then ((x.1 : Int), true) else (-1, false))
    by_cases he : x.2 = s.size
    ·rw [if_pos he]
     exact ev_pos (by omega) (Ev.now _)
    ·rw [if_neg he]
     exact ev_neg (by omega) (Ev.now _)
 ·rw [if_neg (fun k => ht k.1)]
  exact ev_bindc (l1In_eq _ _ _) (ev_neg (by simpa using ht) bad)
end Go.Proofs.Ytihgpkohglcijaa.Pl
