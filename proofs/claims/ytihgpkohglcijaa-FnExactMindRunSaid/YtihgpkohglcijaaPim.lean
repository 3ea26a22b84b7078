/- Plain laws: minds: the program's. -/
import Derived.Test.YtihgpkohglcijaaPx6
import Derived.Test.YtihgpkohglcijaaPmd
import Derived.Test.YtihgpkohglcijaaPrank
namespace Go.Proofs.Ytihgpkohglcijaa.Pl
open Go.RowKit Go.Proofs.YtihgpkohglcijaaW.PrintWords Go.Proofs.YtihgpkohglcijaaW.PrintLast Go.Proofs.YtihgpkohglcijaaW.PrintMore Go.Proofs.Ytihgpkohglcijaa.P Go.Proofs.Ytihgpkohglcijaa.Mt
theorem isTidy_ev (t : Int) {l : List Int} (hn : l.length ≤ 9223372036854775807) : Ev (fun k => impl_isTidy.f k t l) (tidyOk t l) := by
 unfold impl_isTidy.f tidyOk
 refine Ev.bind (isRank_ev t hn) ?_
 cases h : rankOk t l with
 | false => exact ev_ff (Ev.now _)
 | true =>
  obtain ⟨_, hl, hx, _⟩ := rankOk_iff.1 h
  have := (wn_le t).1
  refine ev_tt (Ev.bind (tidy_ev (by omega) fun x hx' => (hx x hx').1) (Ev.bind (Equal_ev (l := tidyL l) (m := l) (by rw [tidyL_length]; omega)) (ev_eq (Ev.now _) ?_)))
  rw [Bool.true_and]
theorem contL_ev (t : Int) : ∀ (ls : List (List Int)), (∀ y ∈ ls, y.length ≤ 9223372036854775807) → ∀ i : Int, 0 ≤ i → ∃ r, Ev (fun k => Hof.idxL (impl_isMind.no k t) ls i) r ∧ decide (0 ≤ r) = !ls.all (tidyOk t) := by
 intro ls
 induction ls with
 | nil => exact fun _ i _ => ⟨-1, Ev.now _, rfl⟩
 | cons y ys ih =>
  intro hl i hi
  have hy := isTidy_ev t (hl y List.mem_cons_self)
  have hno : Ev (fun k => impl_isMind.no k t y) (!tidyOk t y) := Ev.bind hy (Ev.now _)
  cases e : tidyOk t y with
  | true =>
   rw [e] at hno
   obtain ⟨r, h1, h2⟩ := ih (fun z hz => hl z (List.mem_cons_of_mem _ hz)) (i + 1) (by omega)
   refine ⟨r, Ev.bind hno (ev_ff h1), ?_⟩
   rw [h2, List.all_cons, e, Bool.true_and]
  | false =>
   rw [e] at hno
   refine ⟨i, Ev.bind hno (ev_tt (Ev.now _)), ?_⟩
   rw [List.all_cons, e, decide_eq_true hi]
   rfl
theorem isMind_ev (t : Int) {l : List Int} {ls : List (List Int)} (hn : l.length ≤ 9223372036854775807) (hl : ∀ y ∈ ls, y.length ≤ 9223372036854775807) : Ev (fun k => impl_isMind.f k t l ls) (mindOk t l ls) := by
 unfold impl_isMind.f mindOk
 refine Ev.bind (isTidy_ev t hn) ?_
 cases tidyOk t l with
 | false => exact ev_ff (Ev.now _)
 | true =>
  refine ev_tt ?_
  by_cases h : ls.length ≤ 10
  ·obtain ⟨r, h1, h2⟩ := contL_ev t ls hl 0 (by omega)
   refine ev_pos (by omega) (Ev.bind (Ev.bind h1 (Ev.now _)) (ev_eq (Ev.now _) ?_))
   rw [h2, decide_eq_true h, Bool.true_and, Bool.true_and, Bool.not_not]
  ·refine ev_neg (by omega) (ev_eq (Ev.now _) ?_)
   rw [decide_eq_false h]
   rfl
end Go.Proofs.Ytihgpkohglcijaa.Pl
