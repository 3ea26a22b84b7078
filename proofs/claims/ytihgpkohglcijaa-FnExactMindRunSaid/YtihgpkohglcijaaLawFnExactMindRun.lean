-- Written by a program of this session (wip/hook.py), which runs the kit's printer; Lean checks it.
import Derived.Test.YtihgpkohglcijaaRows
import Derived.Test.YtihgpkohglcijaaHead
import Derived.Test.YtihgpkohglcijaaOpen
import Derived.Test.YtihgpkohglcijaaPx19
import Derived.Test.YtihgpkohglcijaaPureFnExactMindRun
import Derived.WalkKit
import Derived.ProofKit
import Derived.OpenShut
import Derived.ShutString
import Derived.ChangeOld
import Derived.Below
import Derived.SizedLaws
import Derived.Carry
namespace Go.Proofs.Ytihgpkohglcijaa.fnExactMindRun
open Go.ChangeShapes Go.WideShapes Go.ChangeAt Go.RowKit Go.Proofs.YtihgpkohglcijaaW.PrintWords
open Go.ChangeMaps (open_string shut_string)
set_option linter.unusedVariables false
theorem own : ownKnob Try.prog.godebug = none := by kernel_rfl
theorem laidOut : laidOutB Try.prog = true := by kernel_rfl
set_option maxRecDepth 100000 in
theorem lifted (os : Os) (started : os.Started) (H : Type) (enc : TypeId × Value → H) :
  ReturnsInHanded {} Try.checked os 18 .any (Rows.fnExactMindRunSpec.pre6 enc Try.prog Try.f18 Rows.fnExactMindRunRow.domain false) (Rows.fnExactMindRunSpec.post enc Try.prog Try.f18 false true false false) := by
 refine returnsInHanded_of_change_sized (C := Try.checked) own started (by kernel_rfl) Try.func18
  (ChangeSpec.witness6 (enc := enc) (C := Try.checked) false ⟨#[], #[.agg #[.int .i64 0, .slice none 0 0, .slice none 0 0], .slice none 0 0], []⟩ 8 (by kernel_rfl) (by kernel_rfl) (by kernel_rfl) (by kernel_rfl)) ?_
 intro W base args ds gs before hval0 hW hcnd hsz0 _
 have hsz : (DataW.weightsEach Try.prog (Try.f18.params.toList ++ Rows.fnExactMindRunSpec.plain.varTypes Try.prog) (ds ++ gs)).all (· ≤ reachBytes) = true := hsz0
 have hval : ∀ (j : Nat) t v, Try.f18.params[j]? = some t → args[j]? = some v → Value.okWide Try.prog W .any base t v := hval0
 have hW' := hW
 obtain ⟨p, q, hA0, hV, rfl, hfz, hnd⟩ := hW
 have hA : DataW.TrodAll enc Try.prog W 0 (fun _ => true) true Try.f18.params.toList args.toList ds p := hA0
 rw [Try.params18] at hA hval hsz
 obtain ⟨v0, vs0, d0, ds0, p0, q0, hargs, rfl, rfl, h0, r0⟩ := trodAll_cons hA
 obtain ⟨v1, vs1, d1, ds1, p1, q1, rfl, rfl, rfl, h1, r1⟩ := trodAll_cons r0
 obtain ⟨rfl, rfl, rfl⟩ := trodAll_nil r1
 obtain rfl : args = #[v0, v1] := by cases args; simp_all
 obtain ⟨rfl, rfl⟩ := trodVars_none hV
 have k0 := h0
 have lt0 : ∀ x ∈ p0, x.block < W.heap.size := by obtain ⟨m, hm⟩ := k0; exact DataW.trod_lt m _ _ _ hm
 obtain ⟨cs0, rfl, z0⟩ := okWide_struct Try.underlying67 (hval 0 67 v0 rfl rfl)
 have z0n : cs0.toList.length = 3 := by rw [Array.length_toList, z0]; kernel_rfl
 obtain ⟨x0, K0, u0⟩ : ∃ x : P.S67, P.k67.K W x cs0.toList ∧ ((Lit.int .i64 x.f0).wf = true ∧ (x.f1.length ≤ maxLen ∧ ∀ y0 ∈ x.f1, (Lit.int .i64 y0).wf = true) ∧ (x.f2.length ≤ maxLen ∧ ∀ y0 ∈ x.f2, (y0.length ≤ maxLen ∧ ∀ y1 ∈ y0, (Lit.int .i64 y1).wf = true))) := by
  obtain ⟨fuel, hf⟩ := h0
  exact (Open.op_struct3 Try.underlying67 (by kernel_rfl) (by kernel_rfl) rfl rfl rfl (Open.op_int Try.underlying3) (Open.op_slice Try.underlying55 (by kernel_rfl) (Open.op_int Try.underlying3)) (Open.op_slice Try.underlying56 (by kernel_rfl) (Open.op_slice Try.underlying55 (by kernel_rfl) (Open.op_int Try.underlying3))) (fun x : P.S67 => (x.f0, x.f1, x.f2)) (fun b0 b1 b2 => ⟨⟨b0, b1, b2⟩, rfl⟩)) fuel _ _ z0n hf
 have k1 := h1
 have lt1 : ∀ x ∈ p1, x.block < W.heap.size := by obtain ⟨m, hm⟩ := k1; exact DataW.trod_lt m _ _ _ hm
 obtain ⟨A1, n1, c1, rfl⟩ := okWide_slice Try.underlying29 (hval 1 29 v1 rfl rfl)
 obtain ⟨x1, ⟨A1', c1', e1, hl1, K1⟩, u1⟩ : ∃ x : List (P.S23), (Kd.slice 23 P.k23).K W x [.slice A1 n1 c1] ∧ (x.length ≤ maxLen ∧ ∀ y0 ∈ x, ((Lit.int .i64 y0.f0).wf = true ∧ y0.f1.size ≤ maxLen)) := by
  obtain ⟨fuel, hf⟩ := h1
  exact (Open.op_slice Try.underlying29 (by kernel_rfl) (Open.op_struct2 Try.underlying23 (by kernel_rfl) (by kernel_rfl) rfl rfl (Open.op_int Try.underlying3) (Open.op_string Try.underlying9) (fun x : P.S23 => (x.f0, x.f1)) (fun b0 b1 => ⟨⟨b0, b1⟩, rfl⟩))) fuel _ _ rfl hf
 simp only [List.cons.injEq, Value.slice.injEq, and_true] at e1
 obtain ⟨rfl, rfl, rfl⟩ := e1
 clear hA0 hval0 hsz0 hsz
 refine (P.laws_FnExactMindRun.walk Pure.FnExactMindRun x0 cs0 A1 c1 x1 W K0 u0 K1 hl1 u1).mono fun e W' ⟨he, bel⟩ => ?_
 subst he
 exact ⟨_, rfl, _, _, _, [], _, [], hW', trodAll_mk1 (shut_bool Try.underlying4 _), (trodAll_cons_mk (Below.trod laidOut (by kernel_rfl) (of_decide_eq_true (by kernel_rfl)) k0 bel lt0) (trodAll_cons_mk (Below.trod laidOut (by kernel_rfl) (of_decide_eq_true (by kernel_rfl)) k1 bel lt1) trodAll_mk0)), rfl, bel.frame _, fun h => by cases h⟩
theorem and_t {a b : Bool} (h : a = true) (k : b = true) : (a && b) = true := by rw [h, k]; rfl
theorem fact0 : (Rows.fnExactMindRunRow.wf (OpenSpec.ofChange Rows.fnExactMindRunSpec)) = true := by kernel_rfl
theorem fact1 : (laidOutB Try.checked.prog) = true := by kernel_rfl
theorem fact2 : (mapsRowed Try.checked.prog) = true := by kernel_rfl
theorem fact3 : (Try.f18.params.all (Try.checked.prog.readableRec ·)) = true := by kernel_rfl
theorem fact4 : (namedTie Try.checked.prog Rows.fnExactMindRunRow.named Rows.fnExactMindRunSpec.vars) = true := by kernel_rfl
theorem fact5 : ((Rows.fnExactMindRunRow.stops == [])) = true := by kernel_rfl
theorem fact6 : ((Try.checked.prog.stops == [])) = true := by kernel_rfl
theorem fact7 : ((Rows.fnExactMindRunRow.knobs == [])) = true := by kernel_rfl
theorem fact8 : ((Try.checked.prog.stopKnobs == [])) = true := by kernel_rfl
theorem fact9 : ((Rows.fnExactMindRunRow.inPlace == Try.checked.prog.inPlace 18)) = true := by kernel_rfl
theorem fact10 : ((Rows.fnExactMindRunRow.unfollowed == Try.checked.prog.unfollowed 18)) = true := by kernel_rfl
theorem fact11 : ((Rows.fnExactMindRunRow.recurses == Try.checked.prog.recurses 18)) = true := by kernel_rfl
theorem fact12 : ((Rows.fnExactMindRunRow.named == Try.checked.prog.varsNamed 18)) = true := by kernel_rfl
theorem fact13 : ((Rows.fnExactMindRunRow.maps == (Try.f18.params.toList ++ Rows.fnExactMindRunSpec.plain.varTypes Try.checked.prog).any (Try.checked.prog.mapsRec ·))) = true := by kernel_rfl
theorem fact14 : ((Rows.fnExactMindRunRow.ifaces == (Try.f18.params.toList ++ Rows.fnExactMindRunSpec.plain.varTypes Try.checked.prog).any (Try.checked.prog.ifacesRec ·))) = true := by kernel_rfl
theorem fact15 : ((Rows.fnExactMindRunRow.mapsOut == Try.checked.prog.mapsAmong Try.f18.resultTypes.toList)) = true := by kernel_rfl
theorem fact16 : ((Rows.fnExactMindRunRow.loops == (Try.f18.params.toList ++ Rows.fnExactMindRunSpec.plain.varTypes Try.checked.prog).any (Try.checked.prog.loopsFrom ·))) = true := by kernel_rfl
theorem fact17 : ((Rows.fnExactMindRunRow.wideKeys == (Try.f18.params.toList ++ Rows.fnExactMindRunSpec.plain.varTypes Try.checked.prog ++ Try.f18.resultTypes.toList).any (Try.checked.prog.wideKeysFrom ·))) = true := by kernel_rfl
theorem fact18 : (Rows.fnExactMindRunSpec.vars.all (Try.checked.prog.varReadable ·)) = true := by kernel_rfl
theorem fact19 : (Try.f18.resultTypes.all (fun t => Try.checked.prog.readableRec t && decide (t < Try.checked.prog.types.size))) = true := by kernel_rfl
theorem fact20 : ((Rows.fnExactMindRunRow.ifacesOut == Try.f18.resultTypes.toList.any (Try.checked.prog.ifacesRec ·))) = true := by kernel_rfl
theorem fact21 : ((Rows.fnExactMindRunRow.loopsOut == Try.f18.resultTypes.toList.any (Try.checked.prog.loopsFrom ·))) = true := by kernel_rfl
theorem fact22 : ((Rows.fnExactMindRunRow.plainKeys == Try.checked.prog.plainKeys)) = true := by kernel_rfl
theorem fact23 : (Rows.fnExactMindRunRow.shortTexts.isNone) = true := by kernel_rfl
theorem fact24 : (Try.checked.prog.stopsHeard) = true := by kernel_rfl
theorem fact25 : (Try.checked.prog.mayEnter) = true := Head.mayEnter
theorem fact26 : ((Rows.fnExactMindRunRow.lifted == Try.checked.prog.liftsFinal)) = true := by rw [Head.liftsFinal]; kernel_rfl
theorem fact27 : ((Try.checked.prog.make == some Rows.fnExactMindRunRow.make)) = true := by rw [Head.make]; kernel_rfl
theorem fact28 : ((Rows.fnExactMindRunRow.kinds == (if Rows.fnExactMindRunRow.domain.isEmpty then [] else Try.f18.params.toList.map fun t => match Try.checked.prog.underlying t with | some (.int k) => some k | _ => none))) = true := by kernel_rfl
theorem fact29 : ((Rows.fnExactMindRunRow.pinned == Rows.fnExactMindRunRow.pinnedBy)) = true := by kernel_rfl
theorem fact30 : ((Rows.fnExactMindRunRow.veiled == (Try.f18.params.toList ++ Rows.fnExactMindRunSpec.plain.varTypes Try.checked.prog ++ Try.f18.resultTypes.toList).any (Try.checked.prog.veiledRec ·))) = true := by kernel_rfl
theorem fact31 : (Rows.fnExactMindRunRow.veiledFits Try.checked.prog Try.f18.params.toList (Try.f18.params.toList ++ Rows.fnExactMindRunSpec.plain.varTypes Try.checked.prog ++ Try.f18.resultTypes.toList)) = true := by kernel_rfl
set_option maxRecDepth 1000000 in
theorem closed : joinedFacts Try.checked.prog 18 Try.f18 Rows.fnExactMindRunSpec Rows.fnExactMindRunRow = true := (and_t (and_t (and_t (and_t (and_t (and_t (and_t (and_t (and_t (and_t (and_t (and_t (and_t (and_t (and_t (and_t (and_t (and_t (and_t (and_t (and_t (and_t (and_t (and_t (and_t (and_t (and_t (and_t (and_t (and_t (and_t fact0 fact1) fact2) fact3) fact4) fact5) fact6) fact7) fact8) fact9) fact10) fact11) fact12) fact13) fact14) fact15) fact16) fact17) fact18) fact19) fact20) fact21) fact22) fact23) fact24) fact25) fact26) fact27) fact28) fact29) fact30) fact31)
theorem over : Rows.fnExactMindRunRow.holds Try.pinned (OpenSpec.ofChange Rows.fnExactMindRunSpec) :=
 OpenClaim.holds_of_wide 18 Try.f18 rfl rfl rfl rfl rfl rfl rfl ⟨rfl, rfl, rfl, rfl, rfl⟩ rfl rfl rfl rfl rfl (by kernel_rfl) Try.func18 closed
  (of_decide_eq_true (by kernel_rfl)) (by unfold Func.isWrapper; first | (rw [if_pos (by decide +kernel)]; kernel_rfl) | (rw [if_neg (by decide +kernel)]; exact ⟨rfl, rfl⟩))
  (fun os started H enc _ => lifted os started H enc)
theorem proved : Rows.FnExactMindRunSaid := over
#print axioms proved
end Go.Proofs.Ytihgpkohglcijaa.fnExactMindRun
namespace Go.Proofs.Ytihgpkohglcijaa
/-- The row, under a short name, for the claim. -/
theorem fnExactMindRun_holds : Rows.FnExactMindRunSaid := fnExactMindRun.proved
end Go.Proofs.Ytihgpkohglcijaa
