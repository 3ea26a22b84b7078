/- Plain facts on sets told by the bits of a number: least sets at which something is so, what meets all of some sets, and how the two turn into each other. No program in sight. -/
namespace Go.Proofs.Yteiehniidihmdaa.Cb

/-- All of the first are in the second. -/
def Sub (a b : Nat) : Prop := ∀ i, a.testBit i = true → b.testBit i = true
theorem sub_and {a b : Nat} : a &&& b = a ↔ Sub a b := by
  constructor
  · intro h i hi
    rw [← h, Nat.testBit_and] at hi
    simp only [Bool.and_eq_true] at hi
    exact hi.2
  · intro h
    apply Nat.eq_of_testBit_eq
    intro i
    rw [Nat.testBit_and]
    cases ha : a.testBit i with
    | false => rfl
    | true => simp [h i ha]
theorem Sub.refl (a : Nat) : Sub a a := fun _ h => h
theorem Sub.trans {a b c : Nat} (h : Sub a b) (k : Sub b c) : Sub a c := fun i hi => k i (h i hi)
theorem Sub.antisymm {a b : Nat} (h : Sub a b) (k : Sub b a) : a = b := by
  apply Nat.eq_of_testBit_eq
  intro i
  cases ha : a.testBit i with
  | false =>
    cases hb : b.testBit i with
    | false => rfl
    | true => rw [k i hb] at ha; cases ha
  | true => exact (h i ha).symm
theorem lt_of_bits {n x : Nat} (h : ∀ i, x.testBit i = true → i < n) : x < 2 ^ n := by
  apply Nat.lt_pow_two_of_testBit
  intro i hi
  cases hx : x.testBit i with
  | false => rfl
  | true => exact absurd (h i hx) (by omega)
theorem bit_lt {n x i : Nat} (h : x < 2 ^ n) (hi : x.testBit i = true) : i < n := by
  rcases Nat.lt_or_ge i n with k | k
  · exact k
  · have : x < 2 ^ i := Nat.lt_of_lt_of_le h (Nat.pow_le_pow_right (by decide) k)
    rw [Nat.testBit_lt_two_pow this] at hi
    cases hi
theorem Sub.lt {n a b : Nat} (h : Sub a b) (hb : b < 2 ^ n) : a < 2 ^ n := lt_of_bits fun i hi => bit_lt hb (h i hi)
theorem Sub.le {a b : Nat} (h : Sub a b) : a ≤ b := by rw [← sub_and.2 h]; exact Nat.and_le_right
theorem Sub.zero (b : Nat) : Sub 0 b := fun i hi => by simp at hi

/-- Without the i-th (which was in), or with it (which was not). -/
theorem flip_bit (x i j : Nat) : (x ^^^ 2 ^ i).testBit j = (x.testBit j != decide (i = j)) := by
  rw [Nat.testBit_xor, Nat.testBit_two_pow]
theorem drop_sub {x i : Nat} (h : x.testBit i = true) : Sub (x ^^^ 2 ^ i) x := by
  intro j hj
  rw [flip_bit] at hj
  by_cases e : i = j
  · subst e; exact h
  · simpa [e] using hj
theorem drop_not {x i : Nat} (h : x.testBit i = true) : (x ^^^ 2 ^ i).testBit i = false := by rw [flip_bit]; simp [h]
theorem drop_keep {x i j : Nat} (h : x.testBit j = true) (e : i ≠ j) : (x ^^^ 2 ^ i).testBit j = true := by rw [flip_bit]; simp [h, e]
theorem drop_lt {x i : Nat} (h : x.testBit i = true) : x ^^^ 2 ^ i < x := by
  have h1 := (drop_sub h).le
  rcases Nat.lt_or_eq_of_le h1 with k | k
  · exact k
  · have := drop_not h
    rw [k, h] at this
    cases this
theorem sub_drop {x y i : Nat} (h : Sub y x) (hy : y.testBit i = false) : Sub y (x ^^^ 2 ^ i) := by
  intro j hj
  by_cases e : i = j
  · subst e; rw [hy] at hj; cases hj
  · exact drop_keep (h j hj) e
/-- Without some: there is one that is in the greater and not in the lesser. -/
theorem exists_more {x y : Nat} (h : Sub x y) (ne : x ≠ y) : ∃ i, y.testBit i = true ∧ x.testBit i = false := by
  apply Classical.byContradiction
  intro k
  apply ne
  apply h.antisymm
  intro i hi
  cases hx : x.testBit i with
  | true => rfl
  | false => exact absurd ⟨i, hi, hx⟩ k
theorem exists_out {x y : Nat} (h : ¬ Sub x y) : ∃ i, x.testBit i = true ∧ y.testBit i = false := by
  apply Classical.byContradiction
  intro k
  apply h
  intro i hi
  cases hy : y.testBit i with
  | true => rfl
  | false => exact absurd ⟨i, hi, hy⟩ k
/-- All that are not in it. -/
def rest (n x : Nat) : Nat := (2 ^ n - 1) ^^^ x
theorem rest_bit {n x i : Nat} (hx : x < 2 ^ n) : (rest n x).testBit i = (decide (i < n) && !x.testBit i) := by
  unfold rest
  rw [Nat.testBit_xor, Nat.testBit_two_pow_sub_one]
  by_cases h : i < n
  · simp [h]
  · have : x.testBit i = false := by
      cases hi : x.testBit i with
      | false => rfl
      | true => exact absurd (bit_lt hx hi) h
    simp [h, this]
theorem rest_lt {n x : Nat} (hx : x < 2 ^ n) : rest n x < 2 ^ n := lt_of_bits fun i hi => by
  rw [rest_bit hx] at hi
  simp at hi
  exact hi.1
theorem rest_rest {n x : Nat} (_hx : x < 2 ^ n) : rest n (rest n x) = x := by
  unfold rest
  rw [← Nat.xor_assoc, Nat.xor_self, Nat.zero_xor]
theorem rest_sub {n x : Nat} (hx : x < 2 ^ n) : rest n x = 2 ^ n - 1 - x := by
  rw [show 2 ^ n - 1 - x = 2 ^ n - (x + 1) from by omega]
  apply Nat.eq_of_testBit_eq
  intro i
  rw [rest_bit hx, Nat.testBit_two_pow_sub_succ hx]

/-- A part at which it is so, and without any one of it not. -/
def isMin (n : Nat) (so : Nat → Bool) (x : Nat) : Bool := so x && (List.range n).all fun i => !(x.testBit i && so (x ^^^ 2 ^ i))
def mins (n : Nat) (so : Nat → Bool) : List Nat := (List.range (2 ^ n)).filter (isMin n so)
theorem isMin_iff {n : Nat} {so : Nat → Bool} {x : Nat} : isMin n so x = true ↔ so x = true ∧ ∀ i, i < n → x.testBit i = true → so (x ^^^ 2 ^ i) = false := by
  unfold isMin
  simp only [Bool.and_eq_true, List.all_eq_true, List.mem_range, Bool.not_eq_true', Bool.and_eq_false_imp]
theorem mem_mins {n : Nat} {so : Nat → Bool} {x : Nat} : x ∈ mins n so ↔ x < 2 ^ n ∧ so x = true ∧ ∀ i, i < n → x.testBit i = true → so (x ^^^ 2 ^ i) = false := by
  unfold mins
  rw [List.mem_filter, List.mem_range, isMin_iff]
theorem mins_congr {n : Nat} {so so' : Nat → Bool} (h : ∀ x, x < 2 ^ n → so x = so' x) : mins n so = mins n so' := by
  unfold mins
  apply List.filter_congr
  intro x hx
  have hx' : x < 2 ^ n := List.mem_range.1 hx
  rw [Bool.eq_iff_iff, isMin_iff, isMin_iff, h x hx']
  constructor
  · rintro ⟨a, b⟩
    exact ⟨a, fun i hi hb => by rw [← h _ ((drop_sub hb).lt hx')]; exact b i hi hb⟩
  · rintro ⟨a, b⟩
    exact ⟨a, fun i hi hb => by rw [h _ ((drop_sub hb).lt hx')]; exact b i hi hb⟩
/-- Wherever it is so, it is so at a least part of that. -/
theorem exists_min {n : Nat} {so : Nat → Bool} : ∀ x, x < 2 ^ n → so x = true → ∃ m, m ∈ mins n so ∧ Sub m x := by
  intro x
  induction x using Nat.strongRecOn with
  | _ x ih =>
    intro hx hs
    by_cases h : ∃ i, i < n ∧ x.testBit i = true ∧ so (x ^^^ 2 ^ i) = true
    · obtain ⟨i, _, hb, hs'⟩ := h
      obtain ⟨m, hm, hsub⟩ := ih _ (drop_lt hb) ((drop_sub hb).lt hx) hs'
      exact ⟨m, hm, hsub.trans (drop_sub hb)⟩
    · refine ⟨x, mem_mins.2 ⟨hx, hs, fun i hi hb => ?_⟩, Sub.refl x⟩
      cases hc : so (x ^^^ 2 ^ i) with
      | false => rfl
      | true => exact absurd ⟨i, hi, hb, hc⟩ h
/-- It stays so with more. -/
def Up (n : Nat) (so : Nat → Bool) : Prop := ∀ a b, b < 2 ^ n → Sub a b → so a = true → so b = true
theorem min_least {n : Nat} {so : Nat → Bool} (up : Up n so) {m x : Nat} (hm : m ∈ mins n so) (hs : so x = true) (h : Sub x m) : x = m := by
  apply Classical.byContradiction
  intro ne
  obtain ⟨i, hi, hx⟩ := exists_more h ne
  obtain ⟨hlt, _, hmin⟩ := mem_mins.1 hm
  have := hmin i (bit_lt hlt hi) hi
  rw [up x _ ((drop_sub hi).lt hlt) (sub_drop h hx) hs] at this
  cases this
/-- It meets all of some parts. -/
def meets (parts : List Nat) (x : Nat) : Bool := parts.all fun p => decide (p &&& x ≠ 0)
theorem and_ne_zero {p x : Nat} : p &&& x ≠ 0 ↔ ∃ i, p.testBit i = true ∧ x.testBit i = true := by
  constructor
  · intro h
    apply Classical.byContradiction
    intro k
    apply h
    apply Nat.eq_of_testBit_eq
    intro i
    rw [Nat.testBit_and, Nat.zero_testBit]
    cases hp : p.testBit i with
    | false => rfl
    | true =>
      cases hx : x.testBit i with
      | false => rfl
      | true => exact absurd ⟨i, hp, hx⟩ k
  · rintro ⟨i, hp, hx⟩ h
    have := congrArg (fun z => z.testBit i) h
    simp [Nat.testBit_and, hp, hx] at this
theorem meets_iff {parts : List Nat} {x : Nat} : meets parts x = true ↔ ∀ p, p ∈ parts → ∃ i, p.testBit i = true ∧ x.testBit i = true := by
  unfold meets
  simp only [List.all_eq_true, decide_eq_true_eq]
  exact ⟨fun h p hp => and_ne_zero.1 (h p hp), fun h p hp => and_ne_zero.2 (h p hp)⟩
theorem meets_up (n : Nat) (parts : List Nat) : Up n (meets parts) := by
  intro a b _ hs h
  rw [meets_iff] at h ⊢
  intro p hp
  obtain ⟨i, h1, h2⟩ := h p hp
  exact ⟨i, h1, hs i h2⟩
theorem meets_not {parts : List Nat} {x : Nat} (h : meets parts x = false) : ∃ p, p ∈ parts ∧ ∀ i, p.testBit i = true → x.testBit i = false := by
  apply Classical.byContradiction
  intro k
  have : meets parts x = true := by
    rw [meets_iff]
    intro p hp
    apply Classical.byContradiction
    intro k2
    apply k
    refine ⟨p, hp, fun i hi => ?_⟩
    cases hx : x.testBit i with
    | false => rfl
    | true => exact absurd ⟨i, hi, hx⟩ k2
  rw [this] at h
  cases h

/-! ### meeting twice -/
def Anti (parts : List Nat) : Prop := ∀ p q, p ∈ parts → q ∈ parts → Sub p q → p = q
theorem part_in_back {n : Nat} {parts : List Nat} (hlt : ∀ p, p ∈ parts → p < 2 ^ n) (anti : Anti parts) {p : Nat} (hp : p ∈ parts) : p ∈ mins n (meets (mins n (meets parts))) := by
  refine mem_mins.2 ⟨hlt p hp, ?_, fun i hi hb => ?_⟩
  · rw [meets_iff]
    intro t ht
    obtain ⟨j, h1, h2⟩ := meets_iff.1 (mem_mins.1 ht).2.1 p hp
    exact ⟨j, h2, h1⟩
  · have hd : p ^^^ 2 ^ i < 2 ^ n := (drop_sub hb).lt (hlt p hp)
    have hX : meets parts (rest n (p ^^^ 2 ^ i)) = true := by
      rw [meets_iff]
      intro q hq
      by_cases e : q = p
      · subst e
        refine ⟨i, hb, ?_⟩
        rw [rest_bit hd, drop_not hb]
        simp [hi]
      · obtain ⟨j, hj, hpj⟩ := exists_out (fun hs => e (anti q p hq hp hs))
        refine ⟨j, hj, ?_⟩
        rw [rest_bit hd]
        have : (p ^^^ 2 ^ i).testBit j = false := by
          cases hc : (p ^^^ 2 ^ i).testBit j with
          | false => rfl
          | true => rw [drop_sub hb j hc] at hpj; cases hpj
        simp [this, bit_lt (hlt q hq) hj]
    obtain ⟨t, ht, hs⟩ := exists_min _ (rest_lt hd) hX
    cases hm : meets (mins n (meets parts)) (p ^^^ 2 ^ i) with
    | false => rfl
    | true =>
      obtain ⟨j, h1, h2⟩ := meets_iff.1 hm t ht
      have := hs j h1
      rw [rest_bit hd, h2] at this
      simp at this
theorem back_in_parts {n : Nat} {parts : List Nat} (hlt : ∀ p, p ∈ parts → p < 2 ^ n) (anti : Anti parts) {b : Nat} (hb : b ∈ mins n (meets (mins n (meets parts)))) : b ∈ parts := by
  have hbl := (mem_mins.1 hb).1
  have hbm := (mem_mins.1 hb).2.1
  have : ∃ q, q ∈ parts ∧ Sub q b := by
    apply Classical.byContradiction
    intro k
    have hX : meets parts (rest n b) = true := by
      rw [meets_iff]
      intro q hq
      obtain ⟨j, hj, hbj⟩ := exists_out (fun hs => k ⟨q, hq, hs⟩)
      refine ⟨j, hj, ?_⟩
      rw [rest_bit hbl, hbj]
      simp [bit_lt (hlt q hq) hj]
    obtain ⟨t, ht, hs⟩ := exists_min _ (rest_lt hbl) hX
    obtain ⟨j, h1, h2⟩ := meets_iff.1 hbm t ht
    have := hs j h1
    rw [rest_bit hbl, h2] at this
    simp at this
  obtain ⟨q, hq, hs⟩ := this
  have := min_least (meets_up n _) hb (mem_mins.1 (part_in_back hlt anti hq)).2.1 hs
  rw [← this]
  exact hq
theorem nodup_mins (n : Nat) (so : Nat → Bool) : (mins n so).Nodup := List.Pairwise.filter _ List.nodup_range
theorem length_le_of_sub : ∀ {l m : List Nat}, l.Nodup → (∀ x, x ∈ l → x ∈ m) → l.length ≤ m.length
  | [], _, _, _ => Nat.zero_le _
  | x :: xs, m, hl, h => by
    have hx := h x List.mem_cons_self
    have hn := List.nodup_cons.1 hl
    have := length_le_of_sub (l := xs) (m := m.erase x) hn.2 (fun y hy => (List.mem_erase_of_ne (fun e => hn.1 (by rw [← e]; exact hy))).2 (h y (List.mem_cons_of_mem _ hy)))
    rw [List.length_erase_of_mem hx] at this
    have hp : 0 < m.length := List.length_pos_of_mem hx
    rw [List.length_cons]
    omega

/-! ### greatest parts at which it is not so -/
def isMax (n : Nat) (so : Nat → Bool) (x : Nat) : Bool := !so x && (List.range n).all fun i => x.testBit i || so (x ^^^ 2 ^ i)
def maxs (n : Nat) (so : Nat → Bool) : List Nat := (List.range (2 ^ n)).filter (isMax n so)
theorem isMax_iff {n : Nat} {so : Nat → Bool} {x : Nat} : isMax n so x = true ↔ so x = false ∧ ∀ i, i < n → x.testBit i = false → so (x ^^^ 2 ^ i) = true := by
  unfold isMax
  simp only [Bool.and_eq_true, List.all_eq_true, List.mem_range, Bool.not_eq_true', Bool.or_eq_true]
  constructor
  · rintro ⟨a, b⟩
    exact ⟨a, fun i hi hx => by rcases b i hi with h | h; · rw [hx] at h; cases h
                                · exact h⟩
  · rintro ⟨a, b⟩
    refine ⟨a, fun i hi => ?_⟩
    cases hx : x.testBit i with
    | true => exact .inl rfl
    | false => exact .inr (b i hi hx)
theorem mem_maxs {n : Nat} {so : Nat → Bool} {x : Nat} : x ∈ maxs n so ↔ x < 2 ^ n ∧ so x = false ∧ ∀ i, i < n → x.testBit i = false → so (x ^^^ 2 ^ i) = true := by
  unfold maxs
  rw [List.mem_filter, List.mem_range, isMax_iff]
theorem rest_flip {n x i : Nat} (_hx : x < 2 ^ n) (_hi : i < n) : rest n (x ^^^ 2 ^ i) = rest n x ^^^ 2 ^ i := by
  unfold rest
  rw [Nat.xor_assoc]
theorem flip_lt {n x i : Nat} (hx : x < 2 ^ n) (hi : i < n) : x ^^^ 2 ^ i < 2 ^ n := Nat.xor_lt_two_pow hx (Nat.pow_lt_pow_right (by decide) hi)
/-- What the greatest parts at which it is not so leave out: the least parts without which it is not so. -/
theorem mem_maxs_rest {n : Nat} {so : Nat → Bool} {x : Nat} (hx : x < 2 ^ n) : x ∈ maxs n so ↔ rest n x ∈ mins n (fun y => !so (rest n y)) := by
  rw [mem_maxs, mem_mins]
  constructor
  · rintro ⟨_, b, c⟩
    refine ⟨rest_lt hx, ?_, fun i hi hb => ?_⟩
    · rw [rest_rest hx, b]; rfl
    · rw [← rest_flip hx hi, rest_rest (flip_lt hx hi)]
      rw [rest_bit hx] at hb
      simp [hi] at hb
      rw [c i hi hb]
      rfl
  · rintro ⟨_, b, c⟩
    rw [rest_rest hx] at b
    refine ⟨hx, by simpa using b, fun i hi hb => ?_⟩
    have := c i hi (by rw [rest_bit hx, hb]; simp [hi])
    rw [← rest_flip hx hi, rest_rest (flip_lt hx hi)] at this
    simpa using this
theorem exists_max {n : Nat} {so : Nat → Bool} {x : Nat} (hx : x < 2 ^ n) (h : so x = false) : ∃ g, g ∈ maxs n so ∧ Sub x g := by
  obtain ⟨m, hm, hs⟩ := exists_min (n := n) (so := fun y => !so (rest n y)) (rest n x) (rest_lt hx) (by rw [rest_rest hx, h]; rfl)
  have hml := (mem_mins.1 hm).1
  refine ⟨rest n m, (mem_maxs_rest (rest_lt hml)).2 (by rw [rest_rest hml]; exact hm), fun i hi => ?_⟩
  rw [rest_bit hml]
  cases hmi : m.testBit i with
  | false => simp [bit_lt hx hi]
  | true =>
    have := hs i hmi
    rw [rest_bit hx, hi] at this
    simp at this
theorem max_anti {n : Nat} {so : Nat → Bool} (up : Up n so) {g x : Nat} (hg : g ∈ maxs n so) (hx : x < 2 ^ n) (hs : so x = false) (h : Sub g x) : g = x := by
  apply Classical.byContradiction
  intro ne
  obtain ⟨i, hi, hgi⟩ := exists_more h ne
  obtain ⟨hlt, _, hmax⟩ := mem_maxs.1 hg
  have hin := bit_lt hx hi
  have h1 := hmax i hin hgi
  have h2 : Sub (g ^^^ 2 ^ i) x := by
    intro j hj
    rw [flip_bit] at hj
    by_cases e : i = j
    · subst e; exact hi
    · exact h j (by simpa [e] using hj)
  rw [up _ _ hx h2 h1] at hs
  cases hs
/-- What meets all that the greatest parts leave out is where it is so. -/
theorem meets_left {n : Nat} {so : Nat → Bool} (up : Up n so) {x : Nat} (hx : x < 2 ^ n) : meets ((maxs n so).map (rest n)) x = so x := by
  rw [Bool.eq_iff_iff, meets_iff]
  constructor
  · intro h
    cases hs : so x with
    | true => rfl
    | false =>
      obtain ⟨g, hg, hsub⟩ := exists_max hx hs
      obtain ⟨i, h1, h2⟩ := h _ (List.mem_map.2 ⟨g, hg, rfl⟩)
      rw [rest_bit (mem_maxs.1 hg).1, hsub i h2] at h1
      simp at h1
  · intro hs p hp
    obtain ⟨g, hg, rfl⟩ := List.mem_map.1 hp
    have hgl := (mem_maxs.1 hg).1
    obtain ⟨i, h1, h2⟩ := exists_out (x := x) (y := g) (fun hsub => by
      have := up x g hgl hsub hs
      rw [(mem_maxs.1 hg).2.1] at this
      cases this)
    refine ⟨i, ?_, h1⟩
    rw [rest_bit hgl, h2]
    simp [bit_lt hx h1]
/-- Least parts meet all that is left out. -/
theorem least_of_left {n : Nat} {so : Nat → Bool} (up : Up n so) : mins n (meets ((maxs n so).map (rest n))) = mins n so := mins_congr fun _ hx => meets_left up hx
theorem meets_mins {n : Nat} {so : Nat → Bool} (up : Up n so) {x : Nat} (hx : x < 2 ^ n) : meets (mins n so) x = !so (rest n x) := by
  rw [Bool.eq_iff_iff, meets_iff]
  constructor
  · intro h
    cases hs : so (rest n x) with
    | false => rfl
    | true =>
      obtain ⟨m, hm, hsub⟩ := exists_min _ (rest_lt hx) hs
      obtain ⟨i, h1, h2⟩ := h m hm
      have := hsub i h1
      rw [rest_bit hx, h2] at this
      simp at this
  · intro hs m hm
    have hs' : so (rest n x) = false := by simpa using hs
    obtain ⟨i, h1, h2⟩ := exists_out (x := m) (y := rest n x) (fun hsub => by
      have := up m _ (rest_lt hx) hsub (mem_mins.1 hm).2.1
      rw [hs'] at this
      cases this)
    refine ⟨i, h1, ?_⟩
    rw [rest_bit hx] at h2
    simp [bit_lt (mem_mins.1 hm).1 h1] at h2
    exact h2
/-- What is left out meets every least part. -/
theorem left_of_least {n : Nat} {so : Nat → Bool} (up : Up n so) {g : Nat} (hg : g < 2 ^ n) : rest n g ∈ mins n (meets (mins n so)) ↔ g ∈ maxs n so := by
  rw [mins_congr (fun _ hx => meets_mins up hx), mem_maxs_rest hg]
theorem length_left {n : Nat} {so : Nat → Bool} (up : Up n so) : (mins n (meets (mins n so))).length = (maxs n so).length := by
  apply Nat.le_antisymm
  · have h := length_le_of_sub (l := mins n (meets (mins n so))) (m := (maxs n so).map (rest n)) (nodup_mins _ _) (fun x hx => by
      have hl := (mem_mins.1 hx).1
      refine List.mem_map.2 ⟨rest n x, ?_, rest_rest hl⟩
      rw [← left_of_least up (rest_lt hl), rest_rest hl]
      exact hx)
    simpa using h
  · have h := length_le_of_sub (l := maxs n so) (m := (mins n (meets (mins n so))).map (rest n)) (List.Pairwise.filter _ List.nodup_range) (fun x hx => by
      have hl := (mem_maxs.1 hx).1
      exact List.mem_map.2 ⟨rest n x, (left_of_least up hl).2 hx, rest_rest hl⟩)
    simpa using h
/-- What is in no least part is in every greatest one, and the other way round. -/
theorem sure_bit {n : Nat} {so : Nat → Bool} (up : Up n so) {k : Nat} (hk : k < n) : (∀ g, g ∈ maxs n so → g.testBit k = true) ↔ ∀ t, t ∈ mins n so → t.testBit k = false := by
  constructor
  · intro h t ht
    cases hb : t.testBit k with
    | false => rfl
    | true =>
      obtain ⟨htl, hts, hmin⟩ := mem_mins.1 ht
      obtain ⟨g, hg, hsub⟩ := exists_max ((drop_sub hb).lt htl) (hmin k hk hb)
      have hgk := h g hg
      have : Sub t g := by
        intro j hj
        by_cases e : k = j
        · subst e; exact hgk
        · exact hsub j (drop_keep hj e)
      have hs := up t g (mem_maxs.1 hg).1 this hts
      rw [(mem_maxs.1 hg).2.1] at hs
      cases hs
  · intro h g hg
    cases hb : g.testBit k with
    | true => rfl
    | false =>
      obtain ⟨hgl, hgs, hmax⟩ := mem_maxs.1 hg
      obtain ⟨t, ht, hsub⟩ := exists_min _ (flip_lt hgl hk) (hmax k hk hb)
      have htk := h t ht
      have : Sub t g := by
        intro j hj
        have := hsub j hj
        rw [flip_bit] at this
        by_cases e : k = j
        · subst e; rw [htk] at hj; cases hj
        · simpa [e] using this
      have hs := up t g hgl this (mem_mins.1 ht).2.1
      rw [hgs] at hs
      cases hs
end Go.Proofs.Yteiehniidihmdaa.Cb
