-- Written by a program of this session (wip/hook.py), which runs the kit's printer; Lean checks it.
import Derived.Test.YteiehniidihmdaaRows
import Derived.Test.YteiehniidihmdaaHead
import Derived.Test.YteiehniidihmdaaPx51
import Derived.Test.YteiehniidihmdaaPureFnExactMergedBy
import Derived.WalkKit
import Derived.ProofKit
import Derived.OpenShut
import Derived.ShutString
import Derived.ChangeOld
import Derived.Below
import Derived.SizedLaws
import Derived.Test.YteiehniidihmdaaV0
namespace Go.Proofs.Yteiehniidihmdaa.fnExactMergedBy
open Go.ChangeShapes Go.WideShapes Go.ChangeAt Go.RowKit
open Go.ChangeMaps (open_string shut_string)
set_option linter.unusedVariables false
theorem own : ownKnob Try.prog.godebug = none := by kernel_rfl
theorem laidOut : laidOutB Try.prog = true := by kernel_rfl
def IsRow (k : IntKind) (w : World) (a : Option Addr) (len cap : Nat) (zs : List Int) : Prop :=
  (a = none ∧ len = 0 ∧ cap = 0 ∧ zs = []) ∨
  ∃ x, a = some x ∧ len ≤ cap ∧ cap ≤ maxLen ∧ zs.length = cap ∧ (∀ i, i < zs.length → w.cell? (x.add i) = some (.int k (zs.getD i 0))) ∧ ∀ n ∈ zs, (Lit.int k n).wf = true
set_option maxRecDepth 100000 in
theorem lifted (os : Os) (started : os.Started) (H : Type) (enc : TypeId × Value → H) :
    ReturnsInHanded {} Try.checked os 22 .any (Rows.fnExactMergedBySpec.pre6 enc Try.prog Try.f22 Rows.fnExactMergedByRow.domain false) (Rows.fnExactMergedBySpec.post enc Try.prog Try.f22 false true false false) := by
  refine returnsInHanded_of_change_sized (C := Try.checked) own started (by kernel_rfl) Try.func22
    (ChangeSpec.witness6 (enc := enc) (C := Try.checked) false ⟨#[], #[.int .i64 0, .slice none 0 0, .int .i64 0, .int .i64 0], []⟩ 8 (by kernel_rfl) (by kernel_rfl) (by kernel_rfl) (by kernel_rfl)) ?_
  intro W base args ds gs before hval0 hW hcnd hsz0 _
  have hsz : (DataW.weightsEach Try.prog (Try.f22.params.toList ++ Rows.fnExactMergedBySpec.plain.varTypes Try.prog) (ds ++ gs)).all (· ≤ reachBytes) = true := hsz0
  have hval : ∀ (j : Nat) t v, Try.f22.params[j]? = some t → args[j]? = some v → Value.okWide Try.prog W .any base t v := hval0
  have hW' := hW
  obtain ⟨p, q, hA0, hV, rfl, hfz, hnd⟩ := hW
  have hA : DataW.TrodAll enc Try.prog W 0 (fun _ => true) true Try.f22.params.toList args.toList ds p := hA0
  rw [Try.params22] at hA hval hsz
  obtain ⟨v0, vs0, d0, ds0, p0, q0, hargs, rfl, rfl, h0, r0⟩ := trodAll_cons hA
  obtain ⟨v1, vs1, d1, ds1, p1, q1, rfl, rfl, rfl, h1, r1⟩ := trodAll_cons r0
  obtain ⟨v2, vs2, d2, ds2, p2, q2, rfl, rfl, rfl, h2, r2⟩ := trodAll_cons r1
  obtain ⟨v3, vs3, d3, ds3, p3, q3, rfl, rfl, rfl, h3, r3⟩ := trodAll_cons r2
  obtain ⟨rfl, rfl, rfl⟩ := trodAll_nil r3
  obtain rfl : args = #[v0, v1, v2, v3] := by cases args; simp_all
  obtain ⟨rfl, rfl⟩ := trodVars_none hV
  obtain ⟨a0, rfl, rfl, rfl, w0⟩ := open_int Try.underlying3 (hval 0 3 v0 rfl rfl) h0
  obtain ⟨a1, len1, cap1, rfl⟩ := okWide_slice Try.underlying22 (hval 1 22 v1 rfl rfl)
  have k1 := h1
  have lt1 : ∀ x ∈ p1, x.block < W.heap.size := by obtain ⟨m, hm⟩ := k1; exact DataW.trod_lt m _ _ _ hm
  obtain ⟨z1, w1⟩ : ∃ zs, IsRow .i64 W a1 len1 cap1 zs := by
    obtain ⟨fuel, hf⟩ := h1
    rcases open_ints Try.underlying22 Try.underlying3 (by kernel_rfl) hf with ⟨hcs, _⟩ | ⟨x, l, c, zs, hcs, _, hl, hm, hz, _, hcell, hwz⟩
    · simp [Value.cells] at hcs
      obtain ⟨rfl, rfl, rfl⟩ := hcs
      exact ⟨[], .inl ⟨rfl, rfl, rfl, rfl⟩⟩
    · simp [Value.cells] at hcs
      obtain ⟨rfl, rfl, rfl⟩ := hcs
      exact ⟨zs, .inr ⟨_, rfl, hl, hm, by simpa using hz, hcell, hwz⟩⟩
  have y1 : len1 * 8 ≤ 140737488351232 := Go.Proofs.YteiehniidihmdaaW.PrintWords.sized_ints hsz (j := 1) (t := 22) rfl rfl Try.underlying22 Try.underlying3 (by kernel_rfl) (by kernel_rfl) h1
  obtain ⟨a2, rfl, rfl, rfl, w2⟩ := open_int Try.underlying3 (hval 2 3 v2 rfl rfl) h2
  obtain ⟨a3, rfl, rfl, rfl, w3⟩ := open_int Try.underlying3 (hval 3 3 v3 rfl rfl) h3
  clear hA0 hval0 hsz0 hsz
  refine (P.laws_FnExactMergedBy.walk Pure.FnExactMergedBy a0 a1 len1 cap1 z1 a2 a3 W w0 w1 y1 w2 w3).mono fun e W' ⟨he, bel⟩ => ?_
  subst he
  exact ⟨_, rfl, _, _, _, [], _, [], hW', trodAll_mk1 (shut_bool Try.underlying4 _), (trodAll_cons_mk (shut_int Try.underlying3 w0) (trodAll_cons_mk (Below.trod laidOut (by kernel_rfl) (of_decide_eq_true (by kernel_rfl)) k1 bel lt1) (trodAll_cons_mk (shut_int Try.underlying3 w2) (trodAll_cons_mk (shut_int Try.underlying3 w3) trodAll_mk0)))), rfl, bel.frame _, fun h => by cases h⟩
theorem and_t {a b : Bool} (h : a = true) (k : b = true) : (a && b) = true := by rw [h, k]; rfl
theorem fact0 : (Rows.fnExactMergedByRow.wf (OpenSpec.ofChange Rows.fnExactMergedBySpec)) = true := by kernel_rfl
theorem fact1 : (laidOutB Try.checked.prog) = true := by kernel_rfl
theorem fact2 : (mapsRowed Try.checked.prog) = true := by kernel_rfl
theorem fact3 : (Try.f22.params.all (Try.checked.prog.readableRec ·)) = true := by kernel_rfl
theorem fact4 : (namedTie Try.checked.prog Rows.fnExactMergedByRow.named Rows.fnExactMergedBySpec.vars) = true := by kernel_rfl
theorem fact5 : ((Rows.fnExactMergedByRow.stops == [])) = true := by kernel_rfl
theorem fact6 : ((Try.checked.prog.stops == [])) = true := by kernel_rfl
theorem fact7 : ((Rows.fnExactMergedByRow.knobs == [])) = true := by kernel_rfl
theorem fact8 : ((Try.checked.prog.stopKnobs == [])) = true := by kernel_rfl
theorem fact9 : ((Rows.fnExactMergedByRow.inPlace == Try.checked.prog.inPlace 22)) = true := by kernel_rfl
theorem fact10 : ((Rows.fnExactMergedByRow.unfollowed == Try.checked.prog.unfollowed 22)) = true := by kernel_rfl
theorem fact11 : ((Rows.fnExactMergedByRow.recurses == Try.checked.prog.recurses 22)) = true := by kernel_rfl
theorem fact12 : ((Rows.fnExactMergedByRow.named == Try.checked.prog.varsNamed 22)) = true := by kernel_rfl
theorem fact13 : ((Rows.fnExactMergedByRow.maps == (Try.f22.params.toList ++ Rows.fnExactMergedBySpec.plain.varTypes Try.checked.prog).any (Try.checked.prog.mapsRec ·))) = true := by kernel_rfl
theorem fact14 : ((Rows.fnExactMergedByRow.ifaces == (Try.f22.params.toList ++ Rows.fnExactMergedBySpec.plain.varTypes Try.checked.prog).any (Try.checked.prog.ifacesRec ·))) = true := by kernel_rfl
theorem fact15 : ((Rows.fnExactMergedByRow.mapsOut == Try.checked.prog.mapsAmong Try.f22.resultTypes.toList)) = true := by kernel_rfl
theorem fact16 : ((Rows.fnExactMergedByRow.loops == (Try.f22.params.toList ++ Rows.fnExactMergedBySpec.plain.varTypes Try.checked.prog).any (Try.checked.prog.loopsFrom ·))) = true := by kernel_rfl
theorem fact17 : ((Rows.fnExactMergedByRow.wideKeys == (Try.f22.params.toList ++ Rows.fnExactMergedBySpec.plain.varTypes Try.checked.prog ++ Try.f22.resultTypes.toList).any (Try.checked.prog.wideKeysFrom ·))) = true := by kernel_rfl
theorem fact18 : (Rows.fnExactMergedBySpec.vars.all (Try.checked.prog.varReadable ·)) = true := by kernel_rfl
theorem fact19 : (Try.f22.resultTypes.all (fun t => Try.checked.prog.readableRec t && decide (t < Try.checked.prog.types.size))) = true := by kernel_rfl
theorem fact20 : ((Rows.fnExactMergedByRow.ifacesOut == Try.f22.resultTypes.toList.any (Try.checked.prog.ifacesRec ·))) = true := by kernel_rfl
theorem fact21 : ((Rows.fnExactMergedByRow.loopsOut == Try.f22.resultTypes.toList.any (Try.checked.prog.loopsFrom ·))) = true := by kernel_rfl
theorem fact22 : ((Rows.fnExactMergedByRow.plainKeys == Try.checked.prog.plainKeys)) = true := by kernel_rfl
theorem fact23 : (Rows.fnExactMergedByRow.shortTexts.isNone) = true := by kernel_rfl
theorem fact24 : (Try.checked.prog.stopsHeard) = true := by kernel_rfl
theorem fact25 : (Try.checked.prog.mayEnter) = true := Head.mayEnter
theorem fact26 : ((Rows.fnExactMergedByRow.lifted == Try.checked.prog.liftsFinal)) = true := by rw [Head.liftsFinal]; kernel_rfl
theorem fact27 : ((Try.checked.prog.make == some Rows.fnExactMergedByRow.make)) = true := by rw [Head.make]; kernel_rfl
theorem fact28 : ((Rows.fnExactMergedByRow.kinds == (if Rows.fnExactMergedByRow.domain.isEmpty then [] else Try.f22.params.toList.map fun t => match Try.checked.prog.underlying t with | some (.int k) => some k | _ => none))) = true := by kernel_rfl
theorem fact29 : ((Rows.fnExactMergedByRow.pinned == Rows.fnExactMergedByRow.pinnedBy)) = true := by kernel_rfl
theorem fact30 : ((Rows.fnExactMergedByRow.veiled == (Try.f22.params.toList ++ Rows.fnExactMergedBySpec.plain.varTypes Try.checked.prog ++ Try.f22.resultTypes.toList).any (Try.checked.prog.veiledRec ·))) = true := by kernel_rfl
theorem fact31 : (Rows.fnExactMergedByRow.veiledFits Try.checked.prog Try.f22.params.toList (Try.f22.params.toList ++ Rows.fnExactMergedBySpec.plain.varTypes Try.checked.prog ++ Try.f22.resultTypes.toList)) = true := by kernel_rfl
theorem closed : joinedFacts Try.checked.prog 22 Try.f22 Rows.fnExactMergedBySpec Rows.fnExactMergedByRow = true := (and_t (and_t (and_t (and_t (and_t (and_t (and_t (and_t (and_t (and_t (and_t (and_t (and_t (and_t (and_t (and_t (and_t (and_t (and_t (and_t (and_t (and_t (and_t (and_t (and_t (and_t (and_t (and_t (and_t (and_t (and_t fact0 fact1) fact2) fact3) fact4) fact5) fact6) fact7) fact8) fact9) fact10) fact11) fact12) fact13) fact14) fact15) fact16) fact17) fact18) fact19) fact20) fact21) fact22) fact23) fact24) fact25) fact26) fact27) fact28) fact29) fact30) fact31)
theorem over : Rows.fnExactMergedByRow.holds Try.pinned (OpenSpec.ofChange Rows.fnExactMergedBySpec) :=
  OpenClaim.holds_of_wide 22 Try.f22 rfl rfl rfl rfl rfl rfl rfl ⟨rfl, rfl, rfl, rfl, rfl⟩ rfl rfl rfl rfl rfl (by kernel_rfl) Try.func22 closed
    (of_decide_eq_true (by kernel_rfl)) (by unfold Func.isWrapper; first | (rw [if_pos (by decide +kernel)]; kernel_rfl) | (rw [if_neg (by decide +kernel)]; exact ⟨rfl, rfl⟩))
    (fun os started H enc _ => lifted os started H enc)
theorem proved : Rows.FnExactMergedBySaid := over
#print axioms proved
end Go.Proofs.Yteiehniidihmdaa.fnExactMergedBy
namespace Go.Proofs.Yteiehniidihmdaa
/-- The row, under a short name, for the claim. -/
theorem fnExactMergedBy_holds : Rows.FnExactMergedBySaid := fnExactMergedBy.proved
end Go.Proofs.Yteiehniidihmdaa
