/- What a function value must pay (GivesI, GivesR), and the contracts of slices.IndexFunc and slices.ContainsFunc at whole numbers: for every slice, and every function value that pays. -/
import Derived.Test.YteiehniidihmdaaV0
import Derived.Test.YteiehniidihmdaaProg
namespace Go.Proofs.Yteiehniidihmdaa.Hof
open Go.RowKit Go.Proofs.YteiehniidihmdaaW.PrintWords Go.Proofs.YteiehniidihmdaaW.PrintLast Go.Proofs.YteiehniidihmdaaW.PrintMore

/-- A call of a function that has a body enters it. -/
theorem enters {f : FuncId} {fn : Func} {c : Code} (hf : Try.prog.funcs[f]? = some fn) (hname : (fn.name == "runtime.NumGoroutine") = false) (hb : fn.body = some c) (args : Array Value) (w : World) : (callFunc f args).run Try.prog w = .ok (.enter f args) w := by
  have hne : ¬ fn.name = "runtime.NumGoroutine" := fun e => by rw [e] at hname; simp at hname
  simp [callFunc, mark, hf, hb, hne]

/-- Called at a number, in every world in which all that lay in w lies, the function value answers what p says, where p says something; it may draw and make memory. -/
def GivesI (g : Nat) (lb : Array Value) (p : Int → Option Bool) (w : World) : Prop :=
  ∀ (W : World) (x : Int) (b : Bool), Below w.heap.size w W → p x = some b →
    Calls Try.prog g (#[.int .i64 x] ++ lb) W fun e w' => e = .returned (.bool b) ∧ Below W.heap.size W w'
theorem GivesI.later {g : Nat} {lb : Array Value} {p : Int → Option Bool} {w W : World} (h : GivesI g lb p w) (hb : Below w.heap.size w W) : GivesI g lb p W :=
  fun W' x b hb' => h W' x b (below_then hb hb.size hb')

/-- The place of the first element at which p says yes. -/
def idxL {α : Type} (p : α → Option Bool) : List α → Int → Option Int
  | [], _ => some (-1)
  | x :: xs, i => (p x).bind fun b => if b = true then some i else idxL p xs (i + 1)
def contL {α : Type} (p : α → Option Bool) (l : List α) : Option Bool := (idxL p l 0).bind fun i => some (decide (0 ≤ i))

theorem idxL_step {p : Int → Option Bool} {l : List Int} {x : Int} (h0 : 0 ≤ x) (h1 : x < (l.length : Int)) :
    idxL p (l.drop x.toNat) x = (p (rd l x)).bind fun b => if b = true then some x else idxL p (l.drop (x + 1).toNat) (x + 1) := by
  have hl : x.toNat < l.length := by omega
  rw [List.drop_eq_getElem_cons hl, show (x + 1).toNat = x.toNat + 1 from by omega]
  unfold rd
  rw [List.getD_eq_getElem?_getD, List.getElem?_eq_getElem hl]
  rfl

set_option maxHeartbeats 2000000 in
theorem IndexFunc_calls (g : Nat) (lb : Array Value) (eg : ∀ args w, (callFunc g args).run Try.prog w = .ok (.enter g args) w) (p : Int → Option Bool)
    (A : Option Addr) (c : Nat) (l : List Int) (r : Int) (w : World) (hr : Kd.C (Kd.int .i64) w A l.length l) (hp : GivesI g lb p w) (h : idxL p l 0 = some r) :
    Calls Try.prog 110 #[.slice A l.length c, .func (.func g) #[] lb] w fun e w' => e = .returned (.int .i64 r) ∧ Below w.heap.size w w' := by
  have HR := Aside0.mk hr
  have HP := Aside0.mk hp
  have HH : Aside0 (idxL p (l.drop (0 : Int).toNat) 0 = some r) := Aside0.mk h
  have hlen : (l.length : Int) ≤ 9223372036854775807 := by have := hr.2.1; omega
  clear hr hp h
  go_enter Try.func110, Try.ntmps110
  go_wp2
  go_loopg [5, 8] l.length (fun gg _ s8 wr => ∃ x : Int, 0 ≤ x ∧ x ≤ (l.length : Int) ∧ (l.length : Int) - x ≤ gg ∧ s8 = .int .i64 x ∧ Aside0 (Below w.heap.size w wr) ∧ Aside0 (idxL p (l.drop x.toNat) x = some r))
  case atStart => exact ⟨0, by omega, by omega, by omega, rfl, ⟨Below.refl _ _⟩, HH⟩
  case round =>
    clear HH
    obtain ⟨x, hx0, hx1, hg, rfl, HB, HA⟩ := hrel
    by_cases hlt : x < (l.length : Int)
    · obtain ⟨ad, e, hx⟩ := Kd.at_int HR.out x hx0 hlt
      cases e
      replace hx := (HB.out.cell (World.block_lt_of_cell? w _ hx)).trans hx
      obtain ⟨b, hb, hrest⟩ := Option.bind_eq_some_iff.mp ((idxL_step hx0 hlt).symm.trans HA.out)
      clear HA
      have hcall := HP.out wr (rd l x) b HB.out hb
      have HRest := Aside0.mk hrest
      clear hrest hb HR HP
      cases b with
      | true =>
        go_wp2_with fail
        refine hcall.mono ?_
        rintro e w' ⟨rfl, hb'⟩
        go_wp2_with fail
        obtain rfl : x = r := by have := HRest.out; simpa using this
        go_ret
        exact ⟨rfl, below_then HB.out HB.out.size hb'⟩
      | false =>
        go_wp2_with fail
        refine hcall.mono ?_
        rintro e w' ⟨rfl, hb'⟩
        go_wp2_with fail
        go_roundg (l.length - (x + 1).toNat)
        case measure => omega
        case rel => exact ⟨x + 1, by omega, by omega, by omega, by go_num, ⟨below_then HB.out HB.out.size hb'⟩, ⟨by have := HRest.out; simpa using this⟩⟩
    · have hxe : x = (l.length : Int) := by omega
      have e2 : (-1 : Int) = r := by
        have := HA.out
        rw [hxe, show ((l.length : Int)).toNat = l.length from by omega, List.drop_length] at this
        simpa [idxL] using this
      clear HA
      subst e2
      go_wp2
      go_ret
      exact ⟨rfl, HB.out⟩

set_option maxHeartbeats 2000000 in
theorem ContainsFunc_calls (g : Nat) (lb : Array Value) (eg : ∀ args w, (callFunc g args).run Try.prog w = .ok (.enter g args) w) (p : Int → Option Bool)
    (A : Option Addr) (c : Nat) (l : List Int) (r : Bool) (w : World) (hr : Kd.C (Kd.int .i64) w A l.length l) (hp : GivesI g lb p w) (h : contL p l = some r) :
    Calls Try.prog 82 #[.slice A l.length c, .func (.func g) #[] lb] w fun e w' => e = .returned (.bool r) ∧ Below w.heap.size w w' := by
  obtain ⟨i, hi, hr'⟩ := Option.bind_eq_some_iff.mp h
  obtain rfl := Option.some.inj hr'
  clear h
  have hcall := IndexFunc_calls g lb eg p A c l i w hr hp hi
  clear hi hp hr hr'
  have HC := Aside0.mk hcall
  clear hcall
  go_enter Try.func82, Try.ntmps82
  go_wp2_with (go_at_call 110; refine HC.out.mono ?_; rintro e w' ⟨rfl, hb'⟩)
  go_ret
  exact ⟨rfl, hb'⟩
end Go.Proofs.Yteiehniidihmdaa.Hof
