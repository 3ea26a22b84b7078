/- Plain laws: marks in minds: a row of numbers and rows of rows, one after the other. -/
import Derived.Test.YtihgpkohglcijaaPx3
import Derived.Test.YtihgpkohglcijaaPmind
namespace Go.Proofs.Ytihgpkohglcijaa.Pl
open Go.RowKit Go.Proofs.YtihgpkohglcijaaW.PrintWords Go.Proofs.YtihgpkohglcijaaW.PrintLast Go.Proofs.YtihgpkohglcijaaW.PrintMore Go.Proofs.Ytihgpkohglcijaa.P Go.Proofs.Ytihgpkohglcijaa.Mt
def marksF (a : Int) (n : Nat) : List Int := (List.range n).map fun (j : Nat) => a + (j : Int)
theorem marksF_length (a : Int) (n : Nat) : (marksF a n).length = n := by simp [marksF]
theorem marksF_succ (a : Int) (n : Nat) : marksF a (n + 1) = marksF a n ++ [a + (n : Int)] := by
 unfold marksF
 rw [List.range_succ, List.map_append]
 rfl
theorem rd_marksF {a : Int} {n i : Nat} (h : i < n) : rd (marksF a n) (i : Int) = a + (i : Int) := by
 rw [rd_at (by rw [marksF_length]; exact h)]
 simp [marksF]
theorem markIntS_at {l : List Int} {a : Int} (h0 : 0 ≤ a) (hn : a + (l.length : Int) ≤ 4611686018427387904) : Ev (fun k => laws_markIntS.f k l a) (a + (l.length : Int), marksF a l.length) := by
 unfold laws_markIntS.f
 have key : ∀ i, i ≤ l.length → Ev (fun k => laws_markIntS.l0 k (marksF a i ++ l.drop i) (a + (i : Int)) (i : Int)) (a + (l.length : Int), marksF a l.length) := by
  apply down
  ·refine Ev.step (fun k => rfl) (ev_neg (by rw [List.length_append, marksF_length, List.length_drop]; omega) (ev_eq (Ev.now _) ?_))
   rw [List.drop_length, List.append_nil]
  ·intro i hi ih
   refine Ev.step (fun k => rfl) (ev_pos (by rw [List.length_append, marksF_length, List.length_drop]; omega) (ev_pos (by omega) ?_))
   have e : (marksF a i ++ l.drop i).set i (a + (i : Int)) = marksF a (i + 1) ++ l.drop (i + 1) := by
    rw [List.set_append_right _ _ (by rw [marksF_length]; omega), marksF_length, Nat.sub_self, List.drop_eq_getElem_cons hi, List.set_cons_zero, marksF_succ, List.append_assoc]
    rfl
   rw [Int.toNat_natCast, e, w1 hi (by omega), w64 (by omega) (by omega), show a + (i : Int) + 1 = a + ((i + 1 : Nat) : Int) from by omega]
   exact ih
 have := key 0 (Nat.zero_le _)
 simpa [marksF] using this
theorem heldIntS_at {n : Nat} {a : Int} (h0 : 0 ≤ a) (hn : a + (n : Int) ≤ 4611686018427387904) : Ev (fun k => laws_heldIntS.f k (marksF a n) a) (a + (n : Int)) := by
 unfold laws_heldIntS.f
 have key : ∀ i, i ≤ n → Ev (fun k => laws_heldIntS.l0 k (marksF a n) (a + (i : Int)) (i : Int)) (a + (n : Int)) := by
  apply down
  ·exact Ev.step (fun k => rfl) (ev_neg (by rw [marksF_length]; omega) (Ev.now _))
  ·intro i hi ih
   refine Ev.step (fun k => rfl) (ev_pos (by rw [marksF_length]; omega) (ev_pos (by omega) (ev_pos (rd_marksF hi) ?_)))
   rw [w1 hi (by omega), w64 (by omega) (by omega), show a + (i : Int) + 1 = a + ((i + 1 : Nat) : Int) from by omega]
   exact ih
 have := key 0 (Nat.zero_le _)
 simpa using this
def rowsF : Int → List (List Int) → List (List Int)
 | _, [] => []
 | a, x :: xs => marksF a x.length :: rowsF (a + (x.length : Int)) xs
def endF : Int → List (List Int) → Int
 | a, [] => a
 | a, x :: xs => endF (a + (x.length : Int)) xs
theorem endF_ge : ∀ (ls : List (List Int)) (a : Int), a ≤ endF a ls
 | [], a => Int.le_refl a
 | x :: xs, a => by have := endF_ge xs (a + (x.length : Int)); show a ≤ endF (a + (x.length : Int)) xs; omega
theorem endF_le : ∀ (ls : List (List Int)) (a : Int), (∀ y ∈ ls, y.length ≤ 1048576) → endF a ls ≤ a + 1048576 * (ls.length : Int)
 | [], a, _ => by show a ≤ _; simp
 | x :: xs, a, h => by
  have := endF_le xs (a + (x.length : Int)) (fun y hy => h y (List.mem_cons_of_mem _ hy))
  have := h x (List.mem_cons_self ..)
  show endF (a + (x.length : Int)) xs ≤ _
  rw [List.length_cons]
  omega
theorem rowsF_length : ∀ (ls : List (List Int)) (a : Int), (rowsF a ls).length = ls.length
 | [], _ => rfl
 | x :: xs, a => by show (_ :: rowsF _ xs).length = _; rw [List.length_cons, List.length_cons, rowsF_length xs]
theorem markIntSS_ev {ls : List (List Int)} {a : Int} (h0 : 0 ≤ a) (hs : ls.length ≤ 1048576) (hn : endF a ls ≤ 4611686018427387904) : Ev (fun k => laws_markIntSS.f k ls a) (endF a ls, rowsF a ls) := by
 unfold laws_markIntSS.f
 have key : ∀ (rest done : List (List Int)) (b : Int), 0 ≤ b → endF b rest ≤ 4611686018427387904 → done.length + rest.length ≤ 1048576 → Ev (fun k => laws_markIntSS.l0 k (done ++ rest) b (done.length : Int)) (endF b rest, done ++ rowsF b rest) := by
  intro rest
  induction rest with
  | nil =>
   intro done b hb hn hl
   refine Ev.step (fun k => rfl) (ev_neg (by rw [List.append_nil]; omega) ?_)
   exact Ev.now _
  | cons x xs ih =>
   intro done b hb hn hl
   have hx := endF_ge xs (b + (x.length : Int))
   have hn' : endF (b + (x.length : Int)) xs ≤ 4611686018427387904 := hn
   rw [List.length_cons] at hl
   have hi := ih (done ++ [marksF b x.length]) (b + (x.length : Int)) (by omega) hn' (by rw [List.length_append, List.length_singleton]; omega)
   refine Ev.step (fun k => rfl) (ev_pos (by rw [List.length_append, List.length_cons]; omega) (ev_pos (by omega) ?_))
   have e1 : (done ++ x :: xs).getD ((done.length : Int)).toNat [] = x := by
    rw [Int.toNat_natCast, List.getD_eq_getElem?_getD, List.getElem?_append_right (Nat.le_refl _), Nat.sub_self]
    rfl
   rw [e1]
   refine Ev.bind (markIntS_at hb (by omega)) ?_
   have e2 : (done ++ x :: xs).set ((done.length : Int)).toNat (marksF b x.length) = (done ++ [marksF b x.length]) ++ xs := by
    rw [Int.toNat_natCast, List.set_append_right _ _ (Nat.le_refl _), Nat.sub_self, List.set_cons_zero, List.append_assoc]
    rfl
   show Ev (fun k => laws_markIntSS.l0 k ((done ++ x :: xs).set ((done.length : Int)).toNat (marksF b x.length)) (b + (x.length : Int)) (wrap64 ((done.length : Int) + 1))) _
   rw [e2, w64 (by omega) (by omega), show (done.length : Int) + 1 = ((done ++ [marksF b x.length]).length : Int) from by rw [List.length_append, List.length_singleton]; omega]
   refine ev_eq hi ?_
   rw [List.append_assoc]
   rfl
 have := key ls [] a h0 hn (by simpa using hs)
 simpa using this
theorem heldIntSS_ev {ls : List (List Int)} {a : Int} (h0 : 0 ≤ a) (hs : ls.length ≤ 1048576) (hn : endF a ls ≤ 4611686018427387904) : Ev (fun k => laws_heldIntSS.f k (rowsF a ls) a) (endF a ls) := by
 unfold laws_heldIntSS.f
 have key : ∀ (rest : List (List Int)) (done : List (List Int)) (b : Int), 0 ≤ b → endF b rest ≤ 4611686018427387904 → done.length + rest.length ≤ 1048576 → Ev (fun k => laws_heldIntSS.l0 k (done ++ rowsF b rest) b (done.length : Int)) (endF b rest) := by
  intro rest
  induction rest with
  | nil =>
   intro done b hb hn hl
   refine Ev.step (fun k => rfl) (ev_neg (by show ¬ (done.length : Int) < ((done ++ ([] : List (List Int))).length : Int); rw [List.append_nil]; omega) ?_)
   exact Ev.now _
  | cons x xs ih =>
   intro done b hb hn hl
   have hx := endF_ge xs (b + (x.length : Int))
   have hn' : endF (b + (x.length : Int)) xs ≤ 4611686018427387904 := hn
   rw [List.length_cons] at hl
   have hi := ih (done ++ [marksF b x.length]) (b + (x.length : Int)) (by omega) hn' (by rw [List.length_append, List.length_singleton]; omega)
   show Ev (fun k => laws_heldIntSS.l0 k (done ++ marksF b x.length :: rowsF (b + (x.length : Int)) xs) b (done.length : Int)) _
   have hlen : done.length < (done ++ marksF b x.length :: rowsF (b + (x.length : Int)) xs).length := by rw [List.length_append, List.length_cons]; omega
   refine Ev.step (fun k => rfl) (ev_pos (by omega) (ev_pos (by omega) ?_))
   have e1 : rd_L5 (done ++ marksF b x.length :: rowsF (b + (x.length : Int)) xs) (done.length : Int) = marksF b x.length := by
    rw [rdLL_at hlen, List.getElem_append_right (Nat.le_refl _)]
    simp
   rw [e1]
   refine Ev.bind (heldIntS_at hb (by omega)) (ev_neg (by omega) ?_)
   rw [w64 (by omega) (by omega), show (done.length : Int) + 1 = ((done ++ [marksF b x.length]).length : Int) from by rw [List.length_append, List.length_singleton]; omega, show done ++ marksF b x.length :: rowsF (b + (x.length : Int)) xs = (done ++ [marksF b x.length]) ++ rowsF (b + (x.length : Int)) xs from by rw [List.append_assoc]; rfl]
   exact hi
 have := key ls [] a h0 hn (by simpa using hs)
 simpa using this
theorem markMind_ev (q : Int) {l : List Int} {ls : List (List Int)} (hl : l.length ≤ 1048576) (hs : ls.length ≤ 1048576) (hy : ∀ y ∈ ls, y.length ≤ 1048576) : Ev (fun k => laws_markMind.f k q l ls 1) (endF (1 + (l.length : Int)) ls, marksF 1 l.length, rowsF (1 + (l.length : Int)) ls) := by
 have := endF_le ls (1 + (l.length : Int)) hy
 unfold laws_markMind.f
 exact Ev.bind (markIntS_at (by omega) (by omega)) (Ev.bind (markIntSS_ev (by dsimp only; omega) hs (by dsimp only; omega)) (Ev.now _))
theorem heldMind_ev (q : Int) {l : List Int} {ls : List (List Int)} (hl : l.length ≤ 1048576) (hs : ls.length ≤ 1048576) (hy : ∀ y ∈ ls, y.length ≤ 1048576) : Ev (fun k => laws_heldMind.f k q (marksF 1 l.length) (rowsF (1 + (l.length : Int)) ls) 1) (endF (1 + (l.length : Int)) ls) := by
 have := endF_le ls (1 + (l.length : Int)) hy
 have := endF_ge ls (1 + (l.length : Int))
 unfold laws_heldMind.f
 exact Ev.bind (heldIntS_at (by omega) (by omega)) (ev_neg (by omega) (Ev.bind (heldIntSS_ev (by omega) hs (by omega)) (ev_neg (by omega) (Ev.now _))))
end Go.Proofs.Ytihgpkohglcijaa.Pl
