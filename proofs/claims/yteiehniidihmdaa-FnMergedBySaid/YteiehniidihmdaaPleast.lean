/- The least ones of parts of what is allowed, by other weights of the same order, and by sums of weights. -/
import Derived.Test.YteiehniidihmdaaPmby
import Derived.Test.YteiehniidihmdaaPmono
namespace Go.Proofs.Yteiehniidihmdaa.Pl
open Go.RowKit Go.Proofs.YteiehniidihmdaaW.PrintWords Go.Proofs.YteiehniidihmdaaW.PrintLast Go.Proofs.YteiehniidihmdaaW.PrintMore Go.Proofs.Yteiehniidihmdaa.P Go.Proofs.Yteiehniidihmdaa.Mt

theorem all_bit {t : Int} (ht : 1 ≤ t ∧ t ≤ 3) {w : Nat} (hw : w < wn t) : (all t).testBit w = true := by
  have : (List.range (wn t)).all (fun w => (all t).testBit w) = true := by rcases three ht with rfl | rfl | rfl <;> decide +kernel
  exact List.all_eq_true.1 this w (List.mem_range.2 hw)
theorem all_lt_wn {t : Int} (ht : 1 ≤ t ∧ t ≤ 3) : all t < 2 ^ wn t := by rcases three ht with rfl | rfl | rfl <;> decide
theorem agree_bit {w : Nat} : ∀ (l : List Int) (a : Nat), (agree a l).testBit w = true ↔ a.testBit w = true ∧ ∀ s, s ∈ l → s.toNat.testBit w = true
  | [], a => by simp [agree]
  | s :: r, a => by
    show (agree (a &&& s.toNat) r).testBit w = true ↔ _
    rw [agree_bit r, Nat.testBit_and, Bool.and_eq_true]
    simp only [List.mem_cons, forall_eq_or_imp]
    exact ⟨fun h => ⟨h.1.1, h.1.2, h.2⟩, fun h => ⟨⟨h.1, h.2.1⟩, h.2.2⟩⟩
theorem and_iff {a b w : Nat} : (a &&& b).testBit w = true ↔ a.testBit w = true ∧ b.testBit w = true := by rw [Nat.testBit_and, Bool.and_eq_true]
theorem ext_bits {a b : Nat} (h : ∀ w, a.testBit w = true ↔ b.testBit w = true) : a = b := Nat.eq_of_testBit_eq fun w => Bool.eq_iff_iff.2 (h w)
theorem some_bit {a : Nat} (h : a ≠ 0) : ∃ w, a.testBit w = true := by
  apply Classical.byContradiction
  intro k
  refine h (Nat.eq_of_testBit_eq fun w => ?_)
  rw [Nat.zero_testBit]
  exact Bool.eq_false_iff.2 fun e => k ⟨w, e⟩
theorem least_sub (a : Nat) (f : Nat → Nat) (n : Nat) : least a f n &&& a = least a f n := ext_bits fun w => by
  rw [and_iff, least_bit]
  exact ⟨fun h => h.1, fun h => ⟨h, h.2.1⟩⟩
theorem least_zero {a : Nat} {f : Nat → Nat} {n : Nat} (ha : a < 2 ^ n) : least a f n = 0 ↔ a = 0 := by
  constructor
  · intro h
    apply Classical.byContradiction
    intro k
    obtain ⟨w, hw⟩ := some_bit k
    obtain ⟨v, hv⟩ := least_some (f := f) (Cb.bit_lt ha hw) hw
    rw [h] at hv
    simp at hv
  · rintro rfl
    have := least_sub 0 f n
    rw [Nat.and_zero] at this
    exact this.symm
theorem least_congr {a : Nat} {f g : Nat → Nat} {n : Nat} (h : ∀ v w, v < n → w < n → (f v ≤ f w ↔ g v ≤ g w)) : least a f n = least a g n := ext_bits fun w => by
  rw [least_bit, least_bit]
  exact ⟨fun k => ⟨k.1, k.2.1, fun v hv hv2 => (h w v k.1 hv).1 (k.2.2 v hv hv2)⟩, fun k => ⟨k.1, k.2.1, fun v hv hv2 => (h w v k.1 hv).2 (k.2.2 v hv hv2)⟩⟩
theorem least_less {a b : Nat} {f : Nat → Nat} {n : Nat} (hb : Cb.Sub b a) (h : least a f n &&& b ≠ 0) : least b f n = least a f n &&& b := by
  obtain ⟨u, hu⟩ := some_bit h
  rw [and_iff, least_bit] at hu
  refine ext_bits fun w => ?_
  rw [and_iff, least_bit, least_bit]
  constructor
  · rintro ⟨x, y, z⟩
    exact ⟨⟨x, hb w y, fun v hv hv2 => Nat.le_trans (z u hu.1.1 hu.2) (hu.1.2.2 v hv hv2)⟩, y⟩
  · rintro ⟨⟨x, _, z⟩, y⟩
    exact ⟨x, y, fun v hv hv2 => z v hv (hb v hv2)⟩
theorem least_sum {a : Nat} {f g : Nat → Nat} {n : Nat} (h : least a f n &&& least a g n ≠ 0) : least a (fun w => f w + g w) n = least a f n &&& least a g n := by
  obtain ⟨u, hu⟩ := some_bit h
  rw [and_iff, least_bit, least_bit] at hu
  obtain ⟨⟨u1, u2, u3⟩, _, _, u4⟩ := hu
  refine ext_bits fun w => ?_
  rw [and_iff, least_bit, least_bit, least_bit]
  constructor
  · rintro ⟨x, y, z⟩
    have h1 := z u u1 u2
    have h2 := u3 w x y
    have h3 := u4 w x y
    refine ⟨⟨x, y, fun v hv hv2 => ?_⟩, x, y, fun v hv hv2 => ?_⟩
    · have := u3 v hv hv2; omega
    · have := u4 v hv hv2; omega
  · rintro ⟨⟨x, y, z⟩, _, _, z2⟩
    exact ⟨x, y, fun v hv hv2 => Nat.add_le_add (z v hv hv2) (z2 v hv hv2)⟩
/-! ### weights that add up -/
def ord (m : Int) (d : List Nat) : Nat := if m = 0 then d.sum else (d.map fun x => 5 ^ x).sum
theorem ord_append (m : Int) (d e : List Nat) : ord m (d ++ e) = ord m d + ord m e := by
  unfold ord
  split
  · exact List.sum_append
  · rw [List.map_append, List.sum_append]
def ordOk (n : Nat) : Bool := (srows n).all fun r => (srows n).all fun r' => decide (wgt 2 r ≤ wgt 2 r') == decide (ord 2 r ≤ ord 2 r')
theorem ord1 : ordOk 1 = true := by decide +kernel
theorem ord2 : ordOk 2 = true := by decide +kernel
theorem ord3 : ordOk 3 = true := by decide +kernel
theorem ord4 : ordOk 4 = true := by decide +kernel
theorem ord_srt {l : List Nat} (h : Row l) : ord 0 (srt l) = ord 0 l ∧ ord 2 (srt l) = ord 2 l := by
  have := four_row (p := fun l => decide (ord 0 (srt l) = ord 0 l ∧ ord 2 (srt l) = ord 2 l)) (by decide +kernel) h
  exact of_decide_eq_true this
theorem ord_iff {m : Int} (hm : m = 0 ∨ m = 2) {l l' : List Nat} (h : Row l) (h' : Row l') (e : l.length = l'.length) : wgt m (srt l) ≤ wgt m (srt l') ↔ ord m l ≤ ord m l' := by
  obtain ⟨o0, o2⟩ := ord_srt h
  obtain ⟨p0, p2⟩ := ord_srt h'
  rcases hm with rfl | rfl
  · rw [← o0, ← p0]
    exact Iff.rfl
  · rw [← o2, ← p2]
    have hs := srt_srows h
    have hs' := srt_srows h'
    rw [← e] at hs'
    obtain ⟨a, b, _⟩ := h
    have key : ordOk l.length = true := by
      have : l.length = 1 ∨ l.length = 2 ∨ l.length = 3 ∨ l.length = 4 := by omega
      rcases this with e | e | e | e <;> rw [e]
      · exact ord1
      · exact ord2
      · exact ord3
      · exact ord4
    have := List.all_eq_true.1 (List.all_eq_true.1 key _ hs) _ hs'
    exact decide_eq_decide.1 (eq_of_beq this)
theorem least_ord {t : Int} {l : List Int} (h : mindsOk t l = true) {m : Int} (hm : m = 0 ∨ m = 2) (a : Nat) : least a (weighs t l m) (wn t) = least a (fun w => ord m (dist t l w)) (wn t) :=
  least_congr fun _ _ hv hw => ord_iff hm (dist_row h hv) (dist_row h hw) (by unfold dist; rw [List.length_map, List.length_map])
theorem dist_append (t : Int) (l l' : List Int) (w : Nat) : dist t (l ++ l') w = dist t l w ++ dist t l' w := by unfold dist; exact List.map_append
theorem wgt_zero {m : Int} (h0 : 0 ≤ m) (h2 : m ≤ 2) {l : List Nat} (h : Row l) : wgt m (srt l) = 0 ↔ ∀ x, x ∈ l → x = 0 := by
  have := four_row (p := fun r => (decide (wgt 0 (srt r) = 0) == r.all (fun x => decide (x = 0))) && (decide (wgt 1 (srt r) = 0) == r.all (fun x => decide (x = 0))) && (decide (wgt 2 (srt r) = 0) == r.all (fun x => decide (x = 0)))) (by decide +kernel) h
  simp only [Bool.and_eq_true, beq_iff_eq] at this
  obtain ⟨⟨a, b⟩, c⟩ := this
  have e : l.all (fun x => decide (x = 0)) = true ↔ ∀ x, x ∈ l → x = 0 := by
    rw [List.all_eq_true]
    exact ⟨fun k x hx => of_decide_eq_true (k x hx), fun k x hx => decide_eq_true (k x hx)⟩
  rw [← e]
  have hm : m = 0 ∨ m = 1 ∨ m = 2 := by omega
  rcases hm with rfl | rfl | rfl
  · rw [← a, decide_eq_true_iff]
  · rw [← b, decide_eq_true_iff]
  · rw [← c, decide_eq_true_iff]
theorem least_agree {t : Int} {l : List Int} (h : mindsOk t l = true) {m : Int} (h0 : 0 ≤ m) (h2 : m ≤ 2) {a : Nat} (ha : a ≤ all t) (ne : agree (all t) l &&& a ≠ 0) :
    least a (weighs t l m) (wn t) = agree (all t) l &&& a := by
  have ht := (mindsOk_iff.1 h).2.1
  have hn := all_lt_wn ht
  have zero : ∀ w, w < wn t → (weighs t l m w = 0 ↔ (agree (all t) l).testBit w = true) := by
    intro w hw
    show wgt m (srt (dist t l w)) = 0 ↔ _
    rw [wgt_zero h0 h2 (dist_row h hw), agree_bit]
    constructor
    · intro hx
      refine ⟨all_bit ht hw, fun s hs => (far_lt h hs hw).2.2.1 (hx _ (List.mem_map.2 ⟨s, hs, rfl⟩))⟩
    · rintro ⟨_, hx⟩ x hx2
      obtain ⟨s, hs, rfl⟩ := List.mem_map.1 hx2
      exact (far_lt h hs hw).2.2.2 (hx s hs)
  obtain ⟨u, hu⟩ := some_bit ne
  rw [and_iff] at hu
  have hul := Cb.bit_lt (show a < 2 ^ wn t by omega) hu.2
  have hz := (zero u hul).2 hu.1
  refine ext_bits fun w => ?_
  rw [least_bit, and_iff]
  constructor
  · rintro ⟨x, y, z⟩
    have := z u hul hu.2
    exact ⟨(zero w x).1 (by omega), y⟩
  · rintro ⟨x, y⟩
    have hw := Cb.bit_lt (show a < 2 ^ wn t by omega) y
    have := (zero w hw).2 x
    exact ⟨hw, y, fun v _ _ => by omega⟩
theorem merged_ok {t : Int} {l : List Int} (h : mindsOk t l = true) {a : Nat} (ha : a ≤ all t) {m : Int} (h0 : 0 ≤ m) (h2 : m ≤ 2) : merged t l (a : Int) m = (least a (weighs t l m) (wn t) : Int) := by
  unfold merged
  rw [if_pos ⟨h, decide_eq_true ⟨(mindsOk_iff.1 h).2.1, by omega, by omega⟩, h0, h2⟩]
  rfl
theorem least_256 {t : Int} (ht : 1 ≤ t ∧ t ≤ 3) (a : Nat) (f : Nat → Nat) : least a f (wn t) < 256 := by
  have h1 := least_lt a f (wn t)
  have h2 : 2 ^ wn t ≤ 2 ^ 8 := Nat.pow_le_pow_right (by decide) (wn_le ht).2
  omega
end Go.Proofs.Yteiehniidihmdaa.Pl
