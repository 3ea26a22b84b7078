-- Written by a program of this session (wip/hook.py), which runs the kit's printer; Lean checks it.
import Derived.Test.YtihgpkohglcijaaRows
import Derived.Test.YtihgpkohglcijaaHead
import Derived.Test.YtihgpkohglcijaaOpen
import Derived.Test.YtihgpkohglcijaaPx17
import Derived.Test.YtihgpkohglcijaaPureFnExactMindDo
import Derived.WalkKit
import Derived.ProofKit
import Derived.OpenShut
import Derived.ShutString
import Derived.ChangeOld
import Derived.Below
import Derived.SizedLaws
import Derived.Carry
namespace Go.Proofs.Ytihgpkohglcijaa.fnExactMindDo
open Go.ChangeShapes Go.WideShapes Go.ChangeAt Go.RowKit Go.Proofs.YtihgpkohglcijaaW.PrintWords
open Go.ChangeMaps (open_string shut_string)
set_option linter.unusedVariables false
theorem own : ownKnob Try.prog.godebug = none := by kernel_rfl
theorem laidOut : laidOutB Try.prog = true := by kernel_rfl
set_option maxRecDepth 100000 in
theorem lifted (os : Os) (started : os.Started) (H : Type) (enc : TypeId × Value → H) :
  ReturnsInHanded {} Try.checked os 15 .any (Rows.fnExactMindDoSpec.pre6 enc Try.prog Try.f15 Rows.fnExactMindDoRow.domain false) (Rows.fnExactMindDoSpec.post enc Try.prog Try.f15 false true false false) := by
 refine returnsInHanded_of_change_sized (C := Try.checked) own started (by kernel_rfl) Try.func15
  (ChangeSpec.witness6 (enc := enc) (C := Try.checked) false ⟨#[], #[.agg #[.int .i64 0, .slice none 0 0, .slice none 0 0], .agg #[.int .i64 0, .string ByteArray.empty]], []⟩ 8 (by kernel_rfl) (by kernel_rfl) (by kernel_rfl) (by kernel_rfl)) ?_
 intro W base args ds gs before hval0 hW hcnd hsz0 _
 have hsz : (DataW.weightsEach Try.prog (Try.f15.params.toList ++ Rows.fnExactMindDoSpec.plain.varTypes Try.prog) (ds ++ gs)).all (· ≤ reachBytes) = true := hsz0
 have hval : ∀ (j : Nat) t v, Try.f15.params[j]? = some t → args[j]? = some v → Value.okWide Try.prog W .any base t v := hval0
 have hW' := hW
 obtain ⟨p, q, hA0, hV, rfl, hfz, hnd⟩ := hW
 have hA : DataW.TrodAll enc Try.prog W 0 (fun _ => true) true Try.f15.params.toList args.toList ds p := hA0
 rw [Try.params15] at hA hval hsz
 obtain ⟨v0, vs0, d0, ds0, p0, q0, hargs, rfl, rfl, h0, r0⟩ := trodAll_cons hA
 obtain ⟨v1, vs1, d1, ds1, p1, q1, rfl, rfl, rfl, h1, r1⟩ := trodAll_cons r0
 obtain ⟨rfl, rfl, rfl⟩ := trodAll_nil r1
 obtain rfl : args = #[v0, v1] := by cases args; simp_all
 obtain ⟨rfl, rfl⟩ := trodVars_none hV
 have k0 := h0
 have lt0 : ∀ x ∈ p0, x.block < W.heap.size := by obtain ⟨m, hm⟩ := k0; exact DataW.trod_lt m _ _ _ hm
 obtain ⟨cs0, rfl, z0⟩ := okWide_struct Try.underlying67 (hval 0 67 v0 rfl rfl)
 have z0n : cs0.toList.length = 3 := by rw [Array.length_toList, z0]; kernel_rfl
 obtain ⟨x0, K0, u0⟩ : ∃ x : P.S67, P.k67.K W x cs0.toList ∧ ((Lit.int .i64 x.f0).wf = true ∧ (x.f1.length ≤ maxLen ∧ ∀ y0 ∈ x.f1, (Lit.int .i64 y0).wf = true) ∧ (x.f2.length ≤ maxLen ∧ ∀ y0 ∈ x.f2, (y0.length ≤ maxLen ∧ ∀ y1 ∈ y0, (Lit.int .i64 y1).wf = true))) := by
  obtain ⟨fuel, hf⟩ := h0
  exact (Open.op_struct3 Try.underlying67 (by kernel_rfl) (by kernel_rfl) rfl rfl rfl (Open.op_int Try.underlying3) (Open.op_slice Try.underlying55 (by kernel_rfl) (Open.op_int Try.underlying3)) (Open.op_slice Try.underlying56 (by kernel_rfl) (Open.op_slice Try.underlying55 (by kernel_rfl) (Open.op_int Try.underlying3))) (fun x : P.S67 => (x.f0, x.f1, x.f2)) (fun b0 b1 b2 => ⟨⟨b0, b1, b2⟩, rfl⟩)) fuel _ _ z0n hf
 have k1 := h1
 have lt1 : ∀ x ∈ p1, x.block < W.heap.size := by obtain ⟨m, hm⟩ := k1; exact DataW.trod_lt m _ _ _ hm
 obtain ⟨cs1, rfl, z1⟩ := okWide_struct Try.underlying23 (hval 1 23 v1 rfl rfl)
 have z1n : cs1.toList.length = 2 := by rw [Array.length_toList, z1]; kernel_rfl
 obtain ⟨x1, K1, u1⟩ : ∃ x : P.S23, P.k23.K W x cs1.toList ∧ ((Lit.int .i64 x.f0).wf = true ∧ x.f1.size ≤ maxLen) := by
  obtain ⟨fuel, hf⟩ := h1
  exact (Open.op_struct2 Try.underlying23 (by kernel_rfl) (by kernel_rfl) rfl rfl (Open.op_int Try.underlying3) (Open.op_string Try.underlying9) (fun x : P.S23 => (x.f0, x.f1)) (fun b0 b1 => ⟨⟨b0, b1⟩, rfl⟩)) fuel _ _ z1n hf
 clear hA0 hval0 hsz0 hsz
 refine (P.laws_FnExactMindDo.walk Pure.FnExactMindDo x0 cs0 x1 cs1 W K0 u0 K1 u1).mono fun e W' ⟨he, bel⟩ => ?_
 subst he
 exact ⟨_, rfl, _, _, _, [], _, [], hW', trodAll_mk1 (shut_bool Try.underlying4 _), (trodAll_cons_mk (Below.trod laidOut (by kernel_rfl) (of_decide_eq_true (by kernel_rfl)) k0 bel lt0) (trodAll_cons_mk (Below.trod laidOut (by kernel_rfl) (of_decide_eq_true (by kernel_rfl)) k1 bel lt1) trodAll_mk0)), rfl, bel.frame _, fun h => by cases h⟩
theorem and_t {a b : Bool} (h : a = true) (k : b = true) : (a && b) = true := by rw [h, k]; rfl
theorem fact0 : (Rows.fnExactMindDoRow.wf (OpenSpec.ofChange Rows.fnExactMindDoSpec)) = true := by kernel_rfl
theorem fact1 : (laidOutB Try.checked.prog) = true := by kernel_rfl
theorem fact2 : (mapsRowed Try.checked.prog) = true := by kernel_rfl
theorem fact3 : (Try.f15.params.all (Try.checked.prog.readableRec ·)) = true := by kernel_rfl
theorem fact4 : (namedTie Try.checked.prog Rows.fnExactMindDoRow.named Rows.fnExactMindDoSpec.vars) = true := by kernel_rfl
theorem fact5 : ((Rows.fnExactMindDoRow.stops == [])) = true := by kernel_rfl
theorem fact6 : ((Try.checked.prog.stops == [])) = true := by kernel_rfl
theorem fact7 : ((Rows.fnExactMindDoRow.knobs == [])) = true := by kernel_rfl
theorem fact8 : ((Try.checked.prog.stopKnobs == [])) = true := by kernel_rfl
theorem fact9 : ((Rows.fnExactMindDoRow.inPlace == Try.checked.prog.inPlace 15)) = true := by kernel_rfl
theorem fact10 : ((Rows.fnExactMindDoRow.unfollowed == Try.checked.prog.unfollowed 15)) = true := by kernel_rfl
theorem fact11 : ((Rows.fnExactMindDoRow.recurses == Try.checked.prog.recurses 15)) = true := by kernel_rfl
theorem fact12 : ((Rows.fnExactMindDoRow.named == Try.checked.prog.varsNamed 15)) = true := by kernel_rfl
theorem fact13 : ((Rows.fnExactMindDoRow.maps == (Try.f15.params.toList ++ Rows.fnExactMindDoSpec.plain.varTypes Try.checked.prog).any (Try.checked.prog.mapsRec ·))) = true := by kernel_rfl
theorem fact14 : ((Rows.fnExactMindDoRow.ifaces == (Try.f15.params.toList ++ Rows.fnExactMindDoSpec.plain.varTypes Try.checked.prog).any (Try.checked.prog.ifacesRec ·))) = true := by kernel_rfl
theorem fact15 : ((Rows.fnExactMindDoRow.mapsOut == Try.checked.prog.mapsAmong Try.f15.resultTypes.toList)) = true := by kernel_rfl
theorem fact16 : ((Rows.fnExactMindDoRow.loops == (Try.f15.params.toList ++ Rows.fnExactMindDoSpec.plain.varTypes Try.checked.prog).any (Try.checked.prog.loopsFrom ·))) = true := by kernel_rfl
theorem fact17 : ((Rows.fnExactMindDoRow.wideKeys == (Try.f15.params.toList ++ Rows.fnExactMindDoSpec.plain.varTypes Try.checked.prog ++ Try.f15.resultTypes.toList).any (Try.checked.prog.wideKeysFrom ·))) = true := by kernel_rfl
theorem fact18 : (Rows.fnExactMindDoSpec.vars.all (Try.checked.prog.varReadable ·)) = true := by kernel_rfl
theorem fact19 : (Try.f15.resultTypes.all (fun t => Try.checked.prog.readableRec t && decide (t < Try.checked.prog.types.size))) = true := by kernel_rfl
theorem fact20 : ((Rows.fnExactMindDoRow.ifacesOut == Try.f15.resultTypes.toList.any (Try.checked.prog.ifacesRec ·))) = true := by kernel_rfl
theorem fact21 : ((Rows.fnExactMindDoRow.loopsOut == Try.f15.resultTypes.toList.any (Try.checked.prog.loopsFrom ·))) = true := by kernel_rfl
theorem fact22 : ((Rows.fnExactMindDoRow.plainKeys == Try.checked.prog.plainKeys)) = true := by kernel_rfl
theorem fact23 : (Rows.fnExactMindDoRow.shortTexts.isNone) = true := by kernel_rfl
theorem fact24 : (Try.checked.prog.stopsHeard) = true := by kernel_rfl
theorem fact25 : (Try.checked.prog.mayEnter) = true := Head.mayEnter
theorem fact26 : ((Rows.fnExactMindDoRow.lifted == Try.checked.prog.liftsFinal)) = true := by rw [Head.liftsFinal]; kernel_rfl
theorem fact27 : ((Try.checked.prog.make == some Rows.fnExactMindDoRow.make)) = true := by rw [Head.make]; kernel_rfl
theorem fact28 : ((Rows.fnExactMindDoRow.kinds == (if Rows.fnExactMindDoRow.domain.isEmpty then [] else Try.f15.params.toList.map fun t => match Try.checked.prog.underlying t with | some (.int k) => some k | _ => none))) = true := by kernel_rfl
theorem fact29 : ((Rows.fnExactMindDoRow.pinned == Rows.fnExactMindDoRow.pinnedBy)) = true := by kernel_rfl
theorem fact30 : ((Rows.fnExactMindDoRow.veiled == (Try.f15.params.toList ++ Rows.fnExactMindDoSpec.plain.varTypes Try.checked.prog ++ Try.f15.resultTypes.toList).any (Try.checked.prog.veiledRec ·))) = true := by kernel_rfl
theorem fact31 : (Rows.fnExactMindDoRow.veiledFits Try.checked.prog Try.f15.params.toList (Try.f15.params.toList ++ Rows.fnExactMindDoSpec.plain.varTypes Try.checked.prog ++ Try.f15.resultTypes.toList)) = true := by kernel_rfl
set_option maxRecDepth 1000000 in
theorem closed : joinedFacts Try.checked.prog 15 Try.f15 Rows.fnExactMindDoSpec Rows.fnExactMindDoRow = true := (and_t (and_t (and_t (and_t (and_t (and_t (and_t (and_t (and_t (and_t (and_t (and_t (and_t (and_t (and_t (and_t (and_t (and_t (and_t (and_t (and_t (and_t (and_t (and_t (and_t (and_t (and_t (and_t (and_t (and_t (and_t fact0 fact1) fact2) fact3) fact4) fact5) fact6) fact7) fact8) fact9) fact10) fact11) fact12) fact13) fact14) fact15) fact16) fact17) fact18) fact19) fact20) fact21) fact22) fact23) fact24) fact25) fact26) fact27) fact28) fact29) fact30) fact31)
theorem over : Rows.fnExactMindDoRow.holds Try.pinned (OpenSpec.ofChange Rows.fnExactMindDoSpec) :=
 OpenClaim.holds_of_wide 15 Try.f15 rfl rfl rfl rfl rfl rfl rfl ⟨rfl, rfl, rfl, rfl, rfl⟩ rfl rfl rfl rfl rfl (by kernel_rfl) Try.func15 closed
  (of_decide_eq_true (by kernel_rfl)) (by unfold Func.isWrapper; first | (rw [if_pos (by decide +kernel)]; kernel_rfl) | (rw [if_neg (by decide +kernel)]; exact ⟨rfl, rfl⟩))
  (fun os started H enc _ => lifted os started H enc)
theorem proved : Rows.FnExactMindDoSaid := over
#print axioms proved
end Go.Proofs.Ytihgpkohglcijaa.fnExactMindDo
namespace Go.Proofs.Ytihgpkohglcijaa
/-- The row, under a short name, for the claim. -/
theorem fnExactMindDo_holds : Rows.FnExactMindDoSaid := fnExactMindDo.proved
end Go.Proofs.Ytihgpkohglcijaa
