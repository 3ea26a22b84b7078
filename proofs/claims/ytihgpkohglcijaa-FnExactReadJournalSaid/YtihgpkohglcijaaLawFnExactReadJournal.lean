-- Written by a program of this session (wip/hook.py), which runs the kit's printer; Lean checks it.
import Derived.Test.YtihgpkohglcijaaRows
import Derived.Test.YtihgpkohglcijaaHead
import Derived.Test.YtihgpkohglcijaaPx8
import Derived.Test.YtihgpkohglcijaaPureFnExactReadJournal
import Derived.WalkKit
import Derived.ProofKit
import Derived.OpenShut
import Derived.ShutString
import Derived.ChangeOld
import Derived.Below
import Derived.SizedLaws
namespace Go.Proofs.Ytihgpkohglcijaa.fnExactReadJournal
open Go.ChangeShapes Go.WideShapes Go.ChangeAt Go.RowKit
open Go.ChangeMaps (open_string shut_string)
set_option linter.unusedVariables false
theorem own : ownKnob Try.prog.godebug = none := by kernel_rfl
set_option maxRecDepth 100000 in
theorem lifted (os : Os) (started : os.Started) (H : Type) (enc : TypeId × Value → H) :
    ReturnsInHanded {} Try.checked os 6 .any (Rows.fnExactReadJournalSpec.pre6 enc Try.prog Try.f6 Rows.fnExactReadJournalRow.domain false) (Rows.fnExactReadJournalSpec.post enc Try.prog Try.f6 false true false false) := by
  refine returnsInHanded_of_change_sized (C := Try.checked) own started (by kernel_rfl) Try.func6
    (ChangeSpec.witness6 (enc := enc) (C := Try.checked) false ⟨#[], #[.string ByteArray.empty], []⟩ 8 (by kernel_rfl) (by kernel_rfl) (by kernel_rfl) (by kernel_rfl)) ?_
  intro W base args ds gs before hval0 hW hcnd hsz0 _
  have hsz : (DataW.weightsEach Try.prog (Try.f6.params.toList ++ Rows.fnExactReadJournalSpec.plain.varTypes Try.prog) (ds ++ gs)).all (· ≤ reachBytes) = true := hsz0
  have hval : ∀ (j : Nat) t v, Try.f6.params[j]? = some t → args[j]? = some v → Value.okWide Try.prog W .any base t v := hval0
  have hW' := hW
  obtain ⟨p, q, hA0, hV, rfl, hfz, hnd⟩ := hW
  have hA : DataW.TrodAll enc Try.prog W 0 (fun _ => true) true Try.f6.params.toList args.toList ds p := hA0
  rw [Try.params6] at hA hval hsz
  obtain ⟨v0, vs0, d0, ds0, p0, q0, hargs, rfl, rfl, h0, r0⟩ := trodAll_cons hA
  obtain ⟨rfl, rfl, rfl⟩ := trodAll_nil r0
  obtain rfl : args = #[v0] := by cases args; simp_all
  obtain ⟨rfl, rfl⟩ := trodVars_none hV
  obtain ⟨a0, rfl, rfl, rfl, y0⟩ := open_string Try.underlying9 (hval 0 9 v0 rfl rfl) h0
  have w0 : a0.size ≤ 140737488351232 := by
    have z := sized_string hsz (j := 0) (t := 9) rfl rfl
    rw [Array.length_toList] at z
    exact z
  clear hA0 hval0 hsz0 hsz
  refine (P.laws_FnExactReadJournal.walk Pure.FnExactReadJournal a0 W w0).mono fun e W' ⟨he, bel⟩ => ?_
  subst he
  exact ⟨_, rfl, _, _, _, [], _, [], hW', trodAll_mk1 (shut_bool Try.underlying4 _), (trodAll_cons_mk (shut_string Try.underlying9 y0) trodAll_mk0), rfl, bel.frame _, fun h => by cases h⟩
theorem and_t {a b : Bool} (h : a = true) (k : b = true) : (a && b) = true := by rw [h, k]; rfl
theorem fact0 : (Rows.fnExactReadJournalRow.wf (OpenSpec.ofChange Rows.fnExactReadJournalSpec)) = true := by kernel_rfl
theorem fact1 : (laidOutB Try.checked.prog) = true := by kernel_rfl
theorem fact2 : (mapsRowed Try.checked.prog) = true := by kernel_rfl
theorem fact3 : (Try.f6.params.all (Try.checked.prog.readableRec ·)) = true := by kernel_rfl
theorem fact4 : (namedTie Try.checked.prog Rows.fnExactReadJournalRow.named Rows.fnExactReadJournalSpec.vars) = true := by kernel_rfl
theorem fact5 : ((Rows.fnExactReadJournalRow.stops == [])) = true := by kernel_rfl
theorem fact6 : ((Try.checked.prog.stops == [])) = true := by kernel_rfl
theorem fact7 : ((Rows.fnExactReadJournalRow.knobs == [])) = true := by kernel_rfl
theorem fact8 : ((Try.checked.prog.stopKnobs == [])) = true := by kernel_rfl
theorem fact9 : ((Rows.fnExactReadJournalRow.inPlace == Try.checked.prog.inPlace 6)) = true := by kernel_rfl
theorem fact10 : ((Rows.fnExactReadJournalRow.unfollowed == Try.checked.prog.unfollowed 6)) = true := by kernel_rfl
theorem fact11 : ((Rows.fnExactReadJournalRow.recurses == Try.checked.prog.recurses 6)) = true := by kernel_rfl
theorem fact12 : ((Rows.fnExactReadJournalRow.named == Try.checked.prog.varsNamed 6)) = true := by kernel_rfl
theorem fact13 : ((Rows.fnExactReadJournalRow.maps == (Try.f6.params.toList ++ Rows.fnExactReadJournalSpec.plain.varTypes Try.checked.prog).any (Try.checked.prog.mapsRec ·))) = true := by kernel_rfl
theorem fact14 : ((Rows.fnExactReadJournalRow.ifaces == (Try.f6.params.toList ++ Rows.fnExactReadJournalSpec.plain.varTypes Try.checked.prog).any (Try.checked.prog.ifacesRec ·))) = true := by kernel_rfl
theorem fact15 : ((Rows.fnExactReadJournalRow.mapsOut == Try.checked.prog.mapsAmong Try.f6.resultTypes.toList)) = true := by kernel_rfl
theorem fact16 : ((Rows.fnExactReadJournalRow.loops == (Try.f6.params.toList ++ Rows.fnExactReadJournalSpec.plain.varTypes Try.checked.prog).any (Try.checked.prog.loopsFrom ·))) = true := by kernel_rfl
theorem fact17 : ((Rows.fnExactReadJournalRow.wideKeys == (Try.f6.params.toList ++ Rows.fnExactReadJournalSpec.plain.varTypes Try.checked.prog ++ Try.f6.resultTypes.toList).any (Try.checked.prog.wideKeysFrom ·))) = true := by kernel_rfl
theorem fact18 : (Rows.fnExactReadJournalSpec.vars.all (Try.checked.prog.varReadable ·)) = true := by kernel_rfl
theorem fact19 : (Try.f6.resultTypes.all (fun t => Try.checked.prog.readableRec t && decide (t < Try.checked.prog.types.size))) = true := by kernel_rfl
theorem fact20 : ((Rows.fnExactReadJournalRow.ifacesOut == Try.f6.resultTypes.toList.any (Try.checked.prog.ifacesRec ·))) = true := by kernel_rfl
theorem fact21 : ((Rows.fnExactReadJournalRow.loopsOut == Try.f6.resultTypes.toList.any (Try.checked.prog.loopsFrom ·))) = true := by kernel_rfl
theorem fact22 : ((Rows.fnExactReadJournalRow.plainKeys == Try.checked.prog.plainKeys)) = true := by kernel_rfl
theorem fact23 : (Rows.fnExactReadJournalRow.shortTexts.isNone) = true := by kernel_rfl
theorem fact24 : (Try.checked.prog.stopsHeard) = true := by kernel_rfl
theorem fact25 : (Try.checked.prog.mayEnter) = true := Head.mayEnter
theorem fact26 : ((Rows.fnExactReadJournalRow.lifted == Try.checked.prog.liftsFinal)) = true := by rw [Head.liftsFinal]; kernel_rfl
theorem fact27 : ((Try.checked.prog.make == some Rows.fnExactReadJournalRow.make)) = true := by rw [Head.make]; kernel_rfl
theorem fact28 : ((Rows.fnExactReadJournalRow.kinds == (if Rows.fnExactReadJournalRow.domain.isEmpty then [] else Try.f6.params.toList.map fun t => match Try.checked.prog.underlying t with | some (.int k) => some k | _ => none))) = true := by kernel_rfl
theorem fact29 : ((Rows.fnExactReadJournalRow.pinned == Rows.fnExactReadJournalRow.pinnedBy)) = true := by kernel_rfl
theorem fact30 : ((Rows.fnExactReadJournalRow.veiled == (Try.f6.params.toList ++ Rows.fnExactReadJournalSpec.plain.varTypes Try.checked.prog ++ Try.f6.resultTypes.toList).any (Try.checked.prog.veiledRec ·))) = true := by kernel_rfl
theorem fact31 : (Rows.fnExactReadJournalRow.veiledFits Try.checked.prog Try.f6.params.toList (Try.f6.params.toList ++ Rows.fnExactReadJournalSpec.plain.varTypes Try.checked.prog ++ Try.f6.resultTypes.toList)) = true := by kernel_rfl
set_option maxRecDepth 1000000 in
theorem closed : joinedFacts Try.checked.prog 6 Try.f6 Rows.fnExactReadJournalSpec Rows.fnExactReadJournalRow = true := (and_t (and_t (and_t (and_t (and_t (and_t (and_t (and_t (and_t (and_t (and_t (and_t (and_t (and_t (and_t (and_t (and_t (and_t (and_t (and_t (and_t (and_t (and_t (and_t (and_t (and_t (and_t (and_t (and_t (and_t (and_t fact0 fact1) fact2) fact3) fact4) fact5) fact6) fact7) fact8) fact9) fact10) fact11) fact12) fact13) fact14) fact15) fact16) fact17) fact18) fact19) fact20) fact21) fact22) fact23) fact24) fact25) fact26) fact27) fact28) fact29) fact30) fact31)
theorem over : Rows.fnExactReadJournalRow.holds Try.pinned (OpenSpec.ofChange Rows.fnExactReadJournalSpec) :=
  OpenClaim.holds_of_wide 6 Try.f6 rfl rfl rfl rfl rfl rfl rfl ⟨rfl, rfl, rfl, rfl, rfl⟩ rfl rfl rfl rfl rfl (by kernel_rfl) Try.func6 closed
    (of_decide_eq_true (by kernel_rfl)) (by unfold Func.isWrapper; first | (rw [if_pos (by decide +kernel)]; kernel_rfl) | (rw [if_neg (by decide +kernel)]; exact ⟨rfl, rfl⟩))
    (fun os started H enc _ => lifted os started H enc)
theorem proved : Rows.FnExactReadJournalSaid := over
#print axioms proved
end Go.Proofs.Ytihgpkohglcijaa.fnExactReadJournal
namespace Go.Proofs.Ytihgpkohglcijaa
/-- The row, under a short name, for the claim. -/
theorem fnExactReadJournal_holds : Rows.FnExactReadJournalSaid := fnExactReadJournal.proved
end Go.Proofs.Ytihgpkohglcijaa
