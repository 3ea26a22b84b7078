/-
  No cell of these rows narrows 'for every input' (looked for: loops, veiled, ifaces, maps, wideKeys, modest, calm, conditions, laid).
  DERIVED. THE GIVEN ROWS OF THIS SEAT. 22 by the template 'for every input the law returns true; each argument reads behind the call as it read before'; 0 by the template 'total and deterministic' (their statements: YteiehniidihmdaaTotals.lean).
  GIVEN WITH THE SEED: the statements are not yours to turn. If you find one false, say at which input.
  Laid BY PROGRAM, IN A SANDBOX (cutbox-rows.mjs): the forced cells as the released guide's own fill.sh prints them over the translation f78c099d7934d92c… (all of the seat's roots in one cut). By AI agents, Wed Nov 11 2026. No macro, syntax, notation, axiom, sorry.
-/
import Derived.Test.YteiehniidihmdaaChecked
import GoSem.Claim
import GoSem.ClaimJoined
import GoSem.ClaimMapViews
import Derived.JoinedTies
import Derived.KernelRfl
namespace Go.Proofs.Yteiehniidihmdaa
/- THE CELL 'sum', in the pinned program and in every row, IS THE sha256 OF THE DUMP (.gsa) THAT YteiehniidihmdaaProg.lean LOADS. Nothing in Lean hashes anything: it is a label: what it is worth is what the hold of that sum in a sandbox is worth. -/
noncomputable def Try.pinned : Pinned := { name := "yteiehniidihmdaa", sum := "f78c099d7934d92c09105d36c43407d4dd9ff728b9d340e5f3c604fd54461d02", checked := Try.checked }
namespace Rows
def none {H : Type} : Left H := { results := [], args := [] }

/-- 'laws.FnExactBaseOk': WHATEVER THE INPUT: true; the input reads as it did. -/
def fnExactBaseOkSpec : ChangeSpec := { name := "fnExactBaseOk", fn := fun _ => fun
  | [d1, d2] => { results := [.lit (.bool true)], args := [d1, d2] }
  | _ => none }
def fnExactBaseOkRow : OpenClaim := { program := "yteiehniidihmdaa", sum := "f78c099d7934d92c09105d36c43407d4dd9ff728b9d340e5f3c604fd54461d02", func := "loop.example/beliefchanges/laws.FnExactBaseOk", spec := "fnExactBaseOk", unfollowed := true, recurses := true, apart := false }
def FnExactBaseOkSaid : Prop := fnExactBaseOkRow.holds Try.pinned (OpenSpec.ofChange fnExactBaseOkSpec)

/-- ITS FALSE NEIGHBOUR: 'it returns false'. Refute it at one input. -/
def fnExactBaseOkWrong : ChangeSpec := { name := "fnExactBaseOk", fn := fun _ => fun
  | [d1, d2] => { results := [.lit (.bool false)], args := [d1, d2] }
  | _ => none }
def FnExactBaseOkWrongFalsely : Prop := fnExactBaseOkRow.holds Try.pinned (OpenSpec.ofChange fnExactBaseOkWrong)

/-- 'laws.FnExactMindsOk': WHATEVER THE INPUT: true; the input reads as it did. -/
def fnExactMindsOkSpec : ChangeSpec := { name := "fnExactMindsOk", fn := fun _ => fun
  | [d1, d2] => { results := [.lit (.bool true)], args := [d1, d2] }
  | _ => none }
def fnExactMindsOkRow : OpenClaim := { program := "yteiehniidihmdaa", sum := "f78c099d7934d92c09105d36c43407d4dd9ff728b9d340e5f3c604fd54461d02", func := "loop.example/beliefchanges/laws.FnExactMindsOk", spec := "fnExactMindsOk", unfollowed := true, recurses := true, apart := false }
def FnExactMindsOkSaid : Prop := fnExactMindsOkRow.holds Try.pinned (OpenSpec.ofChange fnExactMindsOkSpec)

/-- ITS FALSE NEIGHBOUR: 'it returns false'. Refute it at one input. -/
def fnExactMindsOkWrong : ChangeSpec := { name := "fnExactMindsOk", fn := fun _ => fun
  | [d1, d2] => { results := [.lit (.bool false)], args := [d1, d2] }
  | _ => none }
def FnExactMindsOkWrongFalsely : Prop := fnExactMindsOkRow.holds Try.pinned (OpenSpec.ofChange fnExactMindsOkWrong)

/-- 'laws.FnExactAgreeOn': WHATEVER THE INPUT: true; the input reads as it did. -/
def fnExactAgreeOnSpec : ChangeSpec := { name := "fnExactAgreeOn", fn := fun _ => fun
  | [d1, d2] => { results := [.lit (.bool true)], args := [d1, d2] }
  | _ => none }
def fnExactAgreeOnRow : OpenClaim := { program := "yteiehniidihmdaa", sum := "f78c099d7934d92c09105d36c43407d4dd9ff728b9d340e5f3c604fd54461d02", func := "loop.example/beliefchanges/laws.FnExactAgreeOn", spec := "fnExactAgreeOn", unfollowed := true, recurses := true, apart := false }
def FnExactAgreeOnSaid : Prop := fnExactAgreeOnRow.holds Try.pinned (OpenSpec.ofChange fnExactAgreeOnSpec)

/-- ITS FALSE NEIGHBOUR: 'it returns false'. Refute it at one input. -/
def fnExactAgreeOnWrong : ChangeSpec := { name := "fnExactAgreeOn", fn := fun _ => fun
  | [d1, d2] => { results := [.lit (.bool false)], args := [d1, d2] }
  | _ => none }
def FnExactAgreeOnWrongFalsely : Prop := fnExactAgreeOnRow.holds Try.pinned (OpenSpec.ofChange fnExactAgreeOnWrong)

/-- 'laws.FnExactPartWorlds': WHATEVER THE INPUT: true; the input reads as it did. -/
def fnExactPartWorldsSpec : ChangeSpec := { name := "fnExactPartWorlds", fn := fun _ => fun
  | [d1, d2, d3] => { results := [.lit (.bool true)], args := [d1, d2, d3] }
  | _ => none }
def fnExactPartWorldsRow : OpenClaim := { program := "yteiehniidihmdaa", sum := "f78c099d7934d92c09105d36c43407d4dd9ff728b9d340e5f3c604fd54461d02", func := "loop.example/beliefchanges/laws.FnExactPartWorlds", spec := "fnExactPartWorlds", unfollowed := true, recurses := true, apart := false }
def FnExactPartWorldsSaid : Prop := fnExactPartWorldsRow.holds Try.pinned (OpenSpec.ofChange fnExactPartWorldsSpec)

/-- ITS FALSE NEIGHBOUR: 'it returns false'. Refute it at one input. -/
def fnExactPartWorldsWrong : ChangeSpec := { name := "fnExactPartWorlds", fn := fun _ => fun
  | [d1, d2, d3] => { results := [.lit (.bool false)], args := [d1, d2, d3] }
  | _ => none }
def FnExactPartWorldsWrongFalsely : Prop := fnExactPartWorldsRow.holds Try.pinned (OpenSpec.ofChange fnExactPartWorldsWrong)

/-- 'laws.FnExactMeetsAll': WHATEVER THE INPUT: true; the input reads as it did. -/
def fnExactMeetsAllSpec : ChangeSpec := { name := "fnExactMeetsAll", fn := fun _ => fun
  | [d1, d2] => { results := [.lit (.bool true)], args := [d1, d2] }
  | _ => none }
def fnExactMeetsAllRow : OpenClaim := { program := "yteiehniidihmdaa", sum := "f78c099d7934d92c09105d36c43407d4dd9ff728b9d340e5f3c604fd54461d02", func := "loop.example/beliefchanges/laws.FnExactMeetsAll", spec := "fnExactMeetsAll", unfollowed := true, recurses := true, apart := false }
def FnExactMeetsAllSaid : Prop := fnExactMeetsAllRow.holds Try.pinned (OpenSpec.ofChange fnExactMeetsAllSpec)

/-- ITS FALSE NEIGHBOUR: 'it returns false'. Refute it at one input. -/
def fnExactMeetsAllWrong : ChangeSpec := { name := "fnExactMeetsAll", fn := fun _ => fun
  | [d1, d2] => { results := [.lit (.bool false)], args := [d1, d2] }
  | _ => none }
def FnExactMeetsAllWrongFalsely : Prop := fnExactMeetsAllRow.holds Try.pinned (OpenSpec.ofChange fnExactMeetsAllWrong)

/-- 'laws.FnMindsOk': WHATEVER THE INPUT: true; the input reads as it did. -/
def fnMindsOkSpec : ChangeSpec := { name := "fnMindsOk", fn := fun _ => fun
  | [d] => { results := [.lit (.bool true)], args := [d] }
  | _ => none }
def fnMindsOkRow : OpenClaim := { program := "yteiehniidihmdaa", sum := "f78c099d7934d92c09105d36c43407d4dd9ff728b9d340e5f3c604fd54461d02", func := "loop.example/beliefchanges/laws.FnMindsOk", spec := "fnMindsOk", unfollowed := true, recurses := true, apart := false }
def FnMindsOkSaid : Prop := fnMindsOkRow.holds Try.pinned (OpenSpec.ofChange fnMindsOkSpec)

/-- ITS FALSE NEIGHBOUR: 'it returns false'. Refute it at one input. -/
def fnMindsOkWrong : ChangeSpec := { name := "fnMindsOk", fn := fun _ => fun
  | [d] => { results := [.lit (.bool false)], args := [d] }
  | _ => none }
def FnMindsOkWrongFalsely : Prop := fnMindsOkRow.holds Try.pinned (OpenSpec.ofChange fnMindsOkWrong)

/-- 'laws.FnBaseOk': WHATEVER THE INPUT: true; the input reads as it did. -/
def fnBaseOkSpec : ChangeSpec := { name := "fnBaseOk", fn := fun _ => fun
  | [d] => { results := [.lit (.bool true)], args := [d] }
  | _ => none }
def fnBaseOkRow : OpenClaim := { program := "yteiehniidihmdaa", sum := "f78c099d7934d92c09105d36c43407d4dd9ff728b9d340e5f3c604fd54461d02", func := "loop.example/beliefchanges/laws.FnBaseOk", spec := "fnBaseOk", unfollowed := true, recurses := true, apart := false }
def FnBaseOkSaid : Prop := fnBaseOkRow.holds Try.pinned (OpenSpec.ofChange fnBaseOkSpec)

/-- ITS FALSE NEIGHBOUR: 'it returns false'. Refute it at one input. -/
def fnBaseOkWrong : ChangeSpec := { name := "fnBaseOk", fn := fun _ => fun
  | [d] => { results := [.lit (.bool false)], args := [d] }
  | _ => none }
def FnBaseOkWrongFalsely : Prop := fnBaseOkRow.holds Try.pinned (OpenSpec.ofChange fnBaseOkWrong)

/-- 'laws.FnExactGreatestParts': WHATEVER THE INPUT: true; the input reads as it did. -/
def fnExactGreatestPartsSpec : ChangeSpec := { name := "fnExactGreatestParts", fn := fun _ => fun
  | [d1, d2, d3] => { results := [.lit (.bool true)], args := [d1, d2, d3] }
  | _ => none }
def fnExactGreatestPartsRow : OpenClaim := { program := "yteiehniidihmdaa", sum := "f78c099d7934d92c09105d36c43407d4dd9ff728b9d340e5f3c604fd54461d02", func := "loop.example/beliefchanges/laws.FnExactGreatestParts", spec := "fnExactGreatestParts", unfollowed := true, recurses := true, apart := false }
def FnExactGreatestPartsSaid : Prop := fnExactGreatestPartsRow.holds Try.pinned (OpenSpec.ofChange fnExactGreatestPartsSpec)

/-- ITS FALSE NEIGHBOUR: 'it returns false'. Refute it at one input. -/
def fnExactGreatestPartsWrong : ChangeSpec := { name := "fnExactGreatestParts", fn := fun _ => fun
  | [d1, d2, d3] => { results := [.lit (.bool false)], args := [d1, d2, d3] }
  | _ => none }
def FnExactGreatestPartsWrongFalsely : Prop := fnExactGreatestPartsRow.holds Try.pinned (OpenSpec.ofChange fnExactGreatestPartsWrong)

/-- 'laws.FnExactLeastParts': WHATEVER THE INPUT: true; the input reads as it did. -/
def fnExactLeastPartsSpec : ChangeSpec := { name := "fnExactLeastParts", fn := fun _ => fun
  | [d1, d2, d3] => { results := [.lit (.bool true)], args := [d1, d2, d3] }
  | _ => none }
def fnExactLeastPartsRow : OpenClaim := { program := "yteiehniidihmdaa", sum := "f78c099d7934d92c09105d36c43407d4dd9ff728b9d340e5f3c604fd54461d02", func := "loop.example/beliefchanges/laws.FnExactLeastParts", spec := "fnExactLeastParts", unfollowed := true, recurses := true, apart := false }
def FnExactLeastPartsSaid : Prop := fnExactLeastPartsRow.holds Try.pinned (OpenSpec.ofChange fnExactLeastPartsSpec)

/-- ITS FALSE NEIGHBOUR: 'it returns false'. Refute it at one input. -/
def fnExactLeastPartsWrong : ChangeSpec := { name := "fnExactLeastParts", fn := fun _ => fun
  | [d1, d2, d3] => { results := [.lit (.bool false)], args := [d1, d2, d3] }
  | _ => none }
def FnExactLeastPartsWrongFalsely : Prop := fnExactLeastPartsRow.holds Try.pinned (OpenSpec.ofChange fnExactLeastPartsWrong)

/-- 'laws.FnMeetsAll': WHATEVER THE INPUT: true; the input reads as it did. -/
def fnMeetsAllSpec : ChangeSpec := { name := "fnMeetsAll", fn := fun _ => fun
  | [d] => { results := [.lit (.bool true)], args := [d] }
  | _ => none }
def fnMeetsAllRow : OpenClaim := { program := "yteiehniidihmdaa", sum := "f78c099d7934d92c09105d36c43407d4dd9ff728b9d340e5f3c604fd54461d02", func := "loop.example/beliefchanges/laws.FnMeetsAll", spec := "fnMeetsAll", unfollowed := true, recurses := true, apart := false }
def FnMeetsAllSaid : Prop := fnMeetsAllRow.holds Try.pinned (OpenSpec.ofChange fnMeetsAllSpec)

/-- ITS FALSE NEIGHBOUR: 'it returns false'. Refute it at one input. -/
def fnMeetsAllWrong : ChangeSpec := { name := "fnMeetsAll", fn := fun _ => fun
  | [d] => { results := [.lit (.bool false)], args := [d] }
  | _ => none }
def FnMeetsAllWrongFalsely : Prop := fnMeetsAllRow.holds Try.pinned (OpenSpec.ofChange fnMeetsAllWrong)

/-- 'laws.FnAgreeOn': WHATEVER THE INPUT: true; the input reads as it did. -/
def fnAgreeOnSpec : ChangeSpec := { name := "fnAgreeOn", fn := fun _ => fun
  | [d] => { results := [.lit (.bool true)], args := [d] }
  | _ => none }
def fnAgreeOnRow : OpenClaim := { program := "yteiehniidihmdaa", sum := "f78c099d7934d92c09105d36c43407d4dd9ff728b9d340e5f3c604fd54461d02", func := "loop.example/beliefchanges/laws.FnAgreeOn", spec := "fnAgreeOn", unfollowed := true, recurses := true, apart := false }
def FnAgreeOnSaid : Prop := fnAgreeOnRow.holds Try.pinned (OpenSpec.ofChange fnAgreeOnSpec)

/-- ITS FALSE NEIGHBOUR: 'it returns false'. Refute it at one input. -/
def fnAgreeOnWrong : ChangeSpec := { name := "fnAgreeOn", fn := fun _ => fun
  | [d] => { results := [.lit (.bool false)], args := [d] }
  | _ => none }
def FnAgreeOnWrongFalsely : Prop := fnAgreeOnRow.holds Try.pinned (OpenSpec.ofChange fnAgreeOnWrong)

/-- 'laws.FnExactSureParts': WHATEVER THE INPUT: true; the input reads as it did. -/
def fnExactSurePartsSpec : ChangeSpec := { name := "fnExactSureParts", fn := fun _ => fun
  | [d1, d2, d3] => { results := [.lit (.bool true)], args := [d1, d2, d3] }
  | _ => none }
def fnExactSurePartsRow : OpenClaim := { program := "yteiehniidihmdaa", sum := "f78c099d7934d92c09105d36c43407d4dd9ff728b9d340e5f3c604fd54461d02", func := "loop.example/beliefchanges/laws.FnExactSureParts", spec := "fnExactSureParts", unfollowed := true, recurses := true, apart := false }
def FnExactSurePartsSaid : Prop := fnExactSurePartsRow.holds Try.pinned (OpenSpec.ofChange fnExactSurePartsSpec)

/-- ITS FALSE NEIGHBOUR: 'it returns false'. Refute it at one input. -/
def fnExactSurePartsWrong : ChangeSpec := { name := "fnExactSureParts", fn := fun _ => fun
  | [d1, d2, d3] => { results := [.lit (.bool false)], args := [d1, d2, d3] }
  | _ => none }
def FnExactSurePartsWrongFalsely : Prop := fnExactSurePartsRow.holds Try.pinned (OpenSpec.ofChange fnExactSurePartsWrong)

/-- 'laws.FnPartWorlds': WHATEVER THE INPUT: true; the input reads as it did. -/
def fnPartWorldsSpec : ChangeSpec := { name := "fnPartWorlds", fn := fun _ => fun
  | [d] => { results := [.lit (.bool true)], args := [d] }
  | _ => none }
def fnPartWorldsRow : OpenClaim := { program := "yteiehniidihmdaa", sum := "f78c099d7934d92c09105d36c43407d4dd9ff728b9d340e5f3c604fd54461d02", func := "loop.example/beliefchanges/laws.FnPartWorlds", spec := "fnPartWorlds", unfollowed := true, recurses := true, apart := false }
def FnPartWorldsSaid : Prop := fnPartWorldsRow.holds Try.pinned (OpenSpec.ofChange fnPartWorldsSpec)

/-- ITS FALSE NEIGHBOUR: 'it returns false'. Refute it at one input. -/
def fnPartWorldsWrong : ChangeSpec := { name := "fnPartWorlds", fn := fun _ => fun
  | [d] => { results := [.lit (.bool false)], args := [d] }
  | _ => none }
def FnPartWorldsWrongFalsely : Prop := fnPartWorldsRow.holds Try.pinned (OpenSpec.ofChange fnPartWorldsWrong)

/-- 'laws.FnLeastParts': WHATEVER THE INPUT: true; the input reads as it did. -/
def fnLeastPartsSpec : ChangeSpec := { name := "fnLeastParts", fn := fun _ => fun
  | [d] => { results := [.lit (.bool true)], args := [d] }
  | _ => none }
def fnLeastPartsRow : OpenClaim := { program := "yteiehniidihmdaa", sum := "f78c099d7934d92c09105d36c43407d4dd9ff728b9d340e5f3c604fd54461d02", func := "loop.example/beliefchanges/laws.FnLeastParts", spec := "fnLeastParts", unfollowed := true, recurses := true, apart := false }
def FnLeastPartsSaid : Prop := fnLeastPartsRow.holds Try.pinned (OpenSpec.ofChange fnLeastPartsSpec)

/-- ITS FALSE NEIGHBOUR: 'it returns false'. Refute it at one input. -/
def fnLeastPartsWrong : ChangeSpec := { name := "fnLeastParts", fn := fun _ => fun
  | [d] => { results := [.lit (.bool false)], args := [d] }
  | _ => none }
def FnLeastPartsWrongFalsely : Prop := fnLeastPartsRow.holds Try.pinned (OpenSpec.ofChange fnLeastPartsWrong)

/-- 'laws.FnGreatestParts': WHATEVER THE INPUT: true; the input reads as it did. -/
def fnGreatestPartsSpec : ChangeSpec := { name := "fnGreatestParts", fn := fun _ => fun
  | [d] => { results := [.lit (.bool true)], args := [d] }
  | _ => none }
def fnGreatestPartsRow : OpenClaim := { program := "yteiehniidihmdaa", sum := "f78c099d7934d92c09105d36c43407d4dd9ff728b9d340e5f3c604fd54461d02", func := "loop.example/beliefchanges/laws.FnGreatestParts", spec := "fnGreatestParts", unfollowed := true, recurses := true, apart := false }
def FnGreatestPartsSaid : Prop := fnGreatestPartsRow.holds Try.pinned (OpenSpec.ofChange fnGreatestPartsSpec)

/-- ITS FALSE NEIGHBOUR: 'it returns false'. Refute it at one input. -/
def fnGreatestPartsWrong : ChangeSpec := { name := "fnGreatestParts", fn := fun _ => fun
  | [d] => { results := [.lit (.bool false)], args := [d] }
  | _ => none }
def FnGreatestPartsWrongFalsely : Prop := fnGreatestPartsRow.holds Try.pinned (OpenSpec.ofChange fnGreatestPartsWrong)

/-- 'laws.FnSureParts': WHATEVER THE INPUT: true; the input reads as it did. -/
def fnSurePartsSpec : ChangeSpec := { name := "fnSureParts", fn := fun _ => fun
  | [d] => { results := [.lit (.bool true)], args := [d] }
  | _ => none }
def fnSurePartsRow : OpenClaim := { program := "yteiehniidihmdaa", sum := "f78c099d7934d92c09105d36c43407d4dd9ff728b9d340e5f3c604fd54461d02", func := "loop.example/beliefchanges/laws.FnSureParts", spec := "fnSureParts", unfollowed := true, recurses := true, apart := false }
def FnSurePartsSaid : Prop := fnSurePartsRow.holds Try.pinned (OpenSpec.ofChange fnSurePartsSpec)

/-- ITS FALSE NEIGHBOUR: 'it returns false'. Refute it at one input. -/
def fnSurePartsWrong : ChangeSpec := { name := "fnSureParts", fn := fun _ => fun
  | [d] => { results := [.lit (.bool false)], args := [d] }
  | _ => none }
def FnSurePartsWrongFalsely : Prop := fnSurePartsRow.holds Try.pinned (OpenSpec.ofChange fnSurePartsWrong)

/-- 'laws.FnExactDistancesOf': WHATEVER THE INPUT: true; the input reads as it did. -/
def fnExactDistancesOfSpec : ChangeSpec := { name := "fnExactDistancesOf", fn := fun _ => fun
  | [d1, d2, d3] => { results := [.lit (.bool true)], args := [d1, d2, d3] }
  | _ => none }
def fnExactDistancesOfRow : OpenClaim := { program := "yteiehniidihmdaa", sum := "f78c099d7934d92c09105d36c43407d4dd9ff728b9d340e5f3c604fd54461d02", func := "loop.example/beliefchanges/laws.FnExactDistancesOf", spec := "fnExactDistancesOf", unfollowed := true, recurses := true, apart := false }
def FnExactDistancesOfSaid : Prop := fnExactDistancesOfRow.holds Try.pinned (OpenSpec.ofChange fnExactDistancesOfSpec)

/-- ITS FALSE NEIGHBOUR: 'it returns false'. Refute it at one input. -/
def fnExactDistancesOfWrong : ChangeSpec := { name := "fnExactDistancesOf", fn := fun _ => fun
  | [d1, d2, d3] => { results := [.lit (.bool false)], args := [d1, d2, d3] }
  | _ => none }
def FnExactDistancesOfWrongFalsely : Prop := fnExactDistancesOfRow.holds Try.pinned (OpenSpec.ofChange fnExactDistancesOfWrong)

/-- 'laws.FnExactRegretOf': WHATEVER THE INPUT: true; the input reads as it did. -/
def fnExactRegretOfSpec : ChangeSpec := { name := "fnExactRegretOf", fn := fun _ => fun
  | [d1, d2, d3] => { results := [.lit (.bool true)], args := [d1, d2, d3] }
  | _ => none }
def fnExactRegretOfRow : OpenClaim := { program := "yteiehniidihmdaa", sum := "f78c099d7934d92c09105d36c43407d4dd9ff728b9d340e5f3c604fd54461d02", func := "loop.example/beliefchanges/laws.FnExactRegretOf", spec := "fnExactRegretOf", unfollowed := true, recurses := true, apart := false }
def FnExactRegretOfSaid : Prop := fnExactRegretOfRow.holds Try.pinned (OpenSpec.ofChange fnExactRegretOfSpec)

/-- ITS FALSE NEIGHBOUR: 'it returns false'. Refute it at one input. -/
def fnExactRegretOfWrong : ChangeSpec := { name := "fnExactRegretOf", fn := fun _ => fun
  | [d1, d2, d3] => { results := [.lit (.bool false)], args := [d1, d2, d3] }
  | _ => none }
def FnExactRegretOfWrongFalsely : Prop := fnExactRegretOfRow.holds Try.pinned (OpenSpec.ofChange fnExactRegretOfWrong)

/-- 'laws.FnDistancesOf': WHATEVER THE INPUT: true; the input reads as it did. -/
def fnDistancesOfSpec : ChangeSpec := { name := "fnDistancesOf", fn := fun _ => fun
  | [d] => { results := [.lit (.bool true)], args := [d] }
  | _ => none }
def fnDistancesOfRow : OpenClaim := { program := "yteiehniidihmdaa", sum := "f78c099d7934d92c09105d36c43407d4dd9ff728b9d340e5f3c604fd54461d02", func := "loop.example/beliefchanges/laws.FnDistancesOf", spec := "fnDistancesOf", unfollowed := true, recurses := true, apart := false }
def FnDistancesOfSaid : Prop := fnDistancesOfRow.holds Try.pinned (OpenSpec.ofChange fnDistancesOfSpec)

/-- ITS FALSE NEIGHBOUR: 'it returns false'. Refute it at one input. -/
def fnDistancesOfWrong : ChangeSpec := { name := "fnDistancesOf", fn := fun _ => fun
  | [d] => { results := [.lit (.bool false)], args := [d] }
  | _ => none }
def FnDistancesOfWrongFalsely : Prop := fnDistancesOfRow.holds Try.pinned (OpenSpec.ofChange fnDistancesOfWrong)

/-- 'laws.FnExactMergedBy': WHATEVER THE INPUT: true; the input reads as it did. -/
def fnExactMergedBySpec : ChangeSpec := { name := "fnExactMergedBy", fn := fun _ => fun
  | [d1, d2, d3, d4] => { results := [.lit (.bool true)], args := [d1, d2, d3, d4] }
  | _ => none }
def fnExactMergedByRow : OpenClaim := { program := "yteiehniidihmdaa", sum := "f78c099d7934d92c09105d36c43407d4dd9ff728b9d340e5f3c604fd54461d02", func := "loop.example/beliefchanges/laws.FnExactMergedBy", spec := "fnExactMergedBy", unfollowed := true, recurses := true, apart := false }
def FnExactMergedBySaid : Prop := fnExactMergedByRow.holds Try.pinned (OpenSpec.ofChange fnExactMergedBySpec)

/-- ITS FALSE NEIGHBOUR: 'it returns false'. Refute it at one input. -/
def fnExactMergedByWrong : ChangeSpec := { name := "fnExactMergedBy", fn := fun _ => fun
  | [d1, d2, d3, d4] => { results := [.lit (.bool false)], args := [d1, d2, d3, d4] }
  | _ => none }
def FnExactMergedByWrongFalsely : Prop := fnExactMergedByRow.holds Try.pinned (OpenSpec.ofChange fnExactMergedByWrong)

/-- 'laws.FnRegretOf': WHATEVER THE INPUT: true; the input reads as it did. -/
def fnRegretOfSpec : ChangeSpec := { name := "fnRegretOf", fn := fun _ => fun
  | [d] => { results := [.lit (.bool true)], args := [d] }
  | _ => none }
def fnRegretOfRow : OpenClaim := { program := "yteiehniidihmdaa", sum := "f78c099d7934d92c09105d36c43407d4dd9ff728b9d340e5f3c604fd54461d02", func := "loop.example/beliefchanges/laws.FnRegretOf", spec := "fnRegretOf", unfollowed := true, recurses := true, apart := false }
def FnRegretOfSaid : Prop := fnRegretOfRow.holds Try.pinned (OpenSpec.ofChange fnRegretOfSpec)

/-- ITS FALSE NEIGHBOUR: 'it returns false'. Refute it at one input. -/
def fnRegretOfWrong : ChangeSpec := { name := "fnRegretOf", fn := fun _ => fun
  | [d] => { results := [.lit (.bool false)], args := [d] }
  | _ => none }
def FnRegretOfWrongFalsely : Prop := fnRegretOfRow.holds Try.pinned (OpenSpec.ofChange fnRegretOfWrong)

/-- 'laws.FnMergedBy': WHATEVER THE INPUT: true; the input reads as it did. -/
def fnMergedBySpec : ChangeSpec := { name := "fnMergedBy", fn := fun _ => fun
  | [d1, d2] => { results := [.lit (.bool true)], args := [d1, d2] }
  | _ => none }
def fnMergedByRow : OpenClaim := { program := "yteiehniidihmdaa", sum := "f78c099d7934d92c09105d36c43407d4dd9ff728b9d340e5f3c604fd54461d02", func := "loop.example/beliefchanges/laws.FnMergedBy", spec := "fnMergedBy", unfollowed := true, recurses := true, apart := false }
def FnMergedBySaid : Prop := fnMergedByRow.holds Try.pinned (OpenSpec.ofChange fnMergedBySpec)

/-- ITS FALSE NEIGHBOUR: 'it returns false'. Refute it at one input. -/
def fnMergedByWrong : ChangeSpec := { name := "fnMergedBy", fn := fun _ => fun
  | [d1, d2] => { results := [.lit (.bool false)], args := [d1, d2] }
  | _ => none }
def FnMergedByWrongFalsely : Prop := fnMergedByRow.holds Try.pinned (OpenSpec.ofChange fnMergedByWrong)

/- THE SECOND FORM. 'bulk': how many values and letters a reading holds, each counted each time it is reached (what is shared counts as often as it is met; a slice's spare places count too). A statement '..UptoSaid' is the law's where the arguments, and the package variables that the reading takes, are together of bulk at most 1048576: NARROWER than '..Said'. Prove '..Said' where nothing that the law and all that it calls make is longer than what came in: it says more and counts as full. Else prove '..UptoSaid'. A law counts once. -/
mutual
def uptoBulk {H : Type} : DataW H → Nat
  | .lit (.string bytes) => bytes.length + 1
  | .lit _ => 1
  | .nil => 1
  | .ptr d => uptoBulk d + 1
  | .slice elems spare => uptoBulkAll elems + uptoBulkAll spare + 1
  | .agg parts => uptoBulkAll parts + 1
  | .iface _ d => uptoBulk d + 1
  | .map entries => uptoBulkEntries entries + 1
  | .held _ => 1
def uptoBulkAll {H : Type} : List (DataW H) → Nat
  | [] => 0
  | d :: r => uptoBulk d + uptoBulkAll r
def uptoBulkEntries {H : Type} : List (Lit × DataW H) → Nat
  | [] => 0
  | x :: r => uptoBulkEntry x + uptoBulkEntries r
def uptoBulkEntry {H : Type} : Lit × DataW H → Nat
  | (.string bytes, d) => bytes.length + uptoBulk d + 1
  | (_, d) => uptoBulk d + 1
 end
def uptoSmall : (H : Type) → List (DataW H) → Bool := fun _ ds => decide (uptoBulkAll ds ≤ 1048576)
def OpenSpec.upto (s : _root_.Go.ChangeSpec) : _root_.Go.OpenSpec := { _root_.Go.OpenSpec.ofChange s with cond := some uptoSmall }

/-- 'laws.FnExactBaseOk', WHERE WHAT IT READS IS OF BULK AT MOST 1048576: true; the input reads as it did. -/
def fnExactBaseOkUptoRow : OpenClaim := { program := "yteiehniidihmdaa", sum := "f78c099d7934d92c09105d36c43407d4dd9ff728b9d340e5f3c604fd54461d02", func := "loop.example/beliefchanges/laws.FnExactBaseOk", spec := "fnExactBaseOk", unfollowed := true, recurses := true, apart := false, narrowed := true }
def FnExactBaseOkUptoSaid : Prop := fnExactBaseOkUptoRow.holds Try.pinned (OpenSpec.upto fnExactBaseOkSpec)

/-- 'laws.FnExactMindsOk', WHERE WHAT IT READS IS OF BULK AT MOST 1048576: true; the input reads as it did. -/
def fnExactMindsOkUptoRow : OpenClaim := { program := "yteiehniidihmdaa", sum := "f78c099d7934d92c09105d36c43407d4dd9ff728b9d340e5f3c604fd54461d02", func := "loop.example/beliefchanges/laws.FnExactMindsOk", spec := "fnExactMindsOk", unfollowed := true, recurses := true, apart := false, narrowed := true }
def FnExactMindsOkUptoSaid : Prop := fnExactMindsOkUptoRow.holds Try.pinned (OpenSpec.upto fnExactMindsOkSpec)

/-- 'laws.FnExactAgreeOn', WHERE WHAT IT READS IS OF BULK AT MOST 1048576: true; the input reads as it did. -/
def fnExactAgreeOnUptoRow : OpenClaim := { program := "yteiehniidihmdaa", sum := "f78c099d7934d92c09105d36c43407d4dd9ff728b9d340e5f3c604fd54461d02", func := "loop.example/beliefchanges/laws.FnExactAgreeOn", spec := "fnExactAgreeOn", unfollowed := true, recurses := true, apart := false, narrowed := true }
def FnExactAgreeOnUptoSaid : Prop := fnExactAgreeOnUptoRow.holds Try.pinned (OpenSpec.upto fnExactAgreeOnSpec)

/-- 'laws.FnExactPartWorlds', WHERE WHAT IT READS IS OF BULK AT MOST 1048576: true; the input reads as it did. -/
def fnExactPartWorldsUptoRow : OpenClaim := { program := "yteiehniidihmdaa", sum := "f78c099d7934d92c09105d36c43407d4dd9ff728b9d340e5f3c604fd54461d02", func := "loop.example/beliefchanges/laws.FnExactPartWorlds", spec := "fnExactPartWorlds", unfollowed := true, recurses := true, apart := false, narrowed := true }
def FnExactPartWorldsUptoSaid : Prop := fnExactPartWorldsUptoRow.holds Try.pinned (OpenSpec.upto fnExactPartWorldsSpec)

/-- 'laws.FnExactMeetsAll', WHERE WHAT IT READS IS OF BULK AT MOST 1048576: true; the input reads as it did. -/
def fnExactMeetsAllUptoRow : OpenClaim := { program := "yteiehniidihmdaa", sum := "f78c099d7934d92c09105d36c43407d4dd9ff728b9d340e5f3c604fd54461d02", func := "loop.example/beliefchanges/laws.FnExactMeetsAll", spec := "fnExactMeetsAll", unfollowed := true, recurses := true, apart := false, narrowed := true }
def FnExactMeetsAllUptoSaid : Prop := fnExactMeetsAllUptoRow.holds Try.pinned (OpenSpec.upto fnExactMeetsAllSpec)

/-- 'laws.FnMindsOk', WHERE WHAT IT READS IS OF BULK AT MOST 1048576: true; the input reads as it did. -/
def fnMindsOkUptoRow : OpenClaim := { program := "yteiehniidihmdaa", sum := "f78c099d7934d92c09105d36c43407d4dd9ff728b9d340e5f3c604fd54461d02", func := "loop.example/beliefchanges/laws.FnMindsOk", spec := "fnMindsOk", unfollowed := true, recurses := true, apart := false, narrowed := true }
def FnMindsOkUptoSaid : Prop := fnMindsOkUptoRow.holds Try.pinned (OpenSpec.upto fnMindsOkSpec)

/-- 'laws.FnBaseOk', WHERE WHAT IT READS IS OF BULK AT MOST 1048576: true; the input reads as it did. -/
def fnBaseOkUptoRow : OpenClaim := { program := "yteiehniidihmdaa", sum := "f78c099d7934d92c09105d36c43407d4dd9ff728b9d340e5f3c604fd54461d02", func := "loop.example/beliefchanges/laws.FnBaseOk", spec := "fnBaseOk", unfollowed := true, recurses := true, apart := false, narrowed := true }
def FnBaseOkUptoSaid : Prop := fnBaseOkUptoRow.holds Try.pinned (OpenSpec.upto fnBaseOkSpec)

/-- 'laws.FnExactGreatestParts', WHERE WHAT IT READS IS OF BULK AT MOST 1048576: true; the input reads as it did. -/
def fnExactGreatestPartsUptoRow : OpenClaim := { program := "yteiehniidihmdaa", sum := "f78c099d7934d92c09105d36c43407d4dd9ff728b9d340e5f3c604fd54461d02", func := "loop.example/beliefchanges/laws.FnExactGreatestParts", spec := "fnExactGreatestParts", unfollowed := true, recurses := true, apart := false, narrowed := true }
def FnExactGreatestPartsUptoSaid : Prop := fnExactGreatestPartsUptoRow.holds Try.pinned (OpenSpec.upto fnExactGreatestPartsSpec)

/-- 'laws.FnExactLeastParts', WHERE WHAT IT READS IS OF BULK AT MOST 1048576: true; the input reads as it did. -/
def fnExactLeastPartsUptoRow : OpenClaim := { program := "yteiehniidihmdaa", sum := "f78c099d7934d92c09105d36c43407d4dd9ff728b9d340e5f3c604fd54461d02", func := "loop.example/beliefchanges/laws.FnExactLeastParts", spec := "fnExactLeastParts", unfollowed := true, recurses := true, apart := false, narrowed := true }
def FnExactLeastPartsUptoSaid : Prop := fnExactLeastPartsUptoRow.holds Try.pinned (OpenSpec.upto fnExactLeastPartsSpec)

/-- 'laws.FnMeetsAll', WHERE WHAT IT READS IS OF BULK AT MOST 1048576: true; the input reads as it did. -/
def fnMeetsAllUptoRow : OpenClaim := { program := "yteiehniidihmdaa", sum := "f78c099d7934d92c09105d36c43407d4dd9ff728b9d340e5f3c604fd54461d02", func := "loop.example/beliefchanges/laws.FnMeetsAll", spec := "fnMeetsAll", unfollowed := true, recurses := true, apart := false, narrowed := true }
def FnMeetsAllUptoSaid : Prop := fnMeetsAllUptoRow.holds Try.pinned (OpenSpec.upto fnMeetsAllSpec)

/-- 'laws.FnAgreeOn', WHERE WHAT IT READS IS OF BULK AT MOST 1048576: true; the input reads as it did. -/
def fnAgreeOnUptoRow : OpenClaim := { program := "yteiehniidihmdaa", sum := "f78c099d7934d92c09105d36c43407d4dd9ff728b9d340e5f3c604fd54461d02", func := "loop.example/beliefchanges/laws.FnAgreeOn", spec := "fnAgreeOn", unfollowed := true, recurses := true, apart := false, narrowed := true }
def FnAgreeOnUptoSaid : Prop := fnAgreeOnUptoRow.holds Try.pinned (OpenSpec.upto fnAgreeOnSpec)

/-- 'laws.FnExactSureParts', WHERE WHAT IT READS IS OF BULK AT MOST 1048576: true; the input reads as it did. -/
def fnExactSurePartsUptoRow : OpenClaim := { program := "yteiehniidihmdaa", sum := "f78c099d7934d92c09105d36c43407d4dd9ff728b9d340e5f3c604fd54461d02", func := "loop.example/beliefchanges/laws.FnExactSureParts", spec := "fnExactSureParts", unfollowed := true, recurses := true, apart := false, narrowed := true }
def FnExactSurePartsUptoSaid : Prop := fnExactSurePartsUptoRow.holds Try.pinned (OpenSpec.upto fnExactSurePartsSpec)

/-- 'laws.FnPartWorlds', WHERE WHAT IT READS IS OF BULK AT MOST 1048576: true; the input reads as it did. -/
def fnPartWorldsUptoRow : OpenClaim := { program := "yteiehniidihmdaa", sum := "f78c099d7934d92c09105d36c43407d4dd9ff728b9d340e5f3c604fd54461d02", func := "loop.example/beliefchanges/laws.FnPartWorlds", spec := "fnPartWorlds", unfollowed := true, recurses := true, apart := false, narrowed := true }
def FnPartWorldsUptoSaid : Prop := fnPartWorldsUptoRow.holds Try.pinned (OpenSpec.upto fnPartWorldsSpec)

/-- 'laws.FnLeastParts', WHERE WHAT IT READS IS OF BULK AT MOST 1048576: true; the input reads as it did. -/
def fnLeastPartsUptoRow : OpenClaim := { program := "yteiehniidihmdaa", sum := "f78c099d7934d92c09105d36c43407d4dd9ff728b9d340e5f3c604fd54461d02", func := "loop.example/beliefchanges/laws.FnLeastParts", spec := "fnLeastParts", unfollowed := true, recurses := true, apart := false, narrowed := true }
def FnLeastPartsUptoSaid : Prop := fnLeastPartsUptoRow.holds Try.pinned (OpenSpec.upto fnLeastPartsSpec)

/-- 'laws.FnGreatestParts', WHERE WHAT IT READS IS OF BULK AT MOST 1048576: true; the input reads as it did. -/
def fnGreatestPartsUptoRow : OpenClaim := { program := "yteiehniidihmdaa", sum := "f78c099d7934d92c09105d36c43407d4dd9ff728b9d340e5f3c604fd54461d02", func := "loop.example/beliefchanges/laws.FnGreatestParts", spec := "fnGreatestParts", unfollowed := true, recurses := true, apart := false, narrowed := true }
def FnGreatestPartsUptoSaid : Prop := fnGreatestPartsUptoRow.holds Try.pinned (OpenSpec.upto fnGreatestPartsSpec)

/-- 'laws.FnSureParts', WHERE WHAT IT READS IS OF BULK AT MOST 1048576: true; the input reads as it did. -/
def fnSurePartsUptoRow : OpenClaim := { program := "yteiehniidihmdaa", sum := "f78c099d7934d92c09105d36c43407d4dd9ff728b9d340e5f3c604fd54461d02", func := "loop.example/beliefchanges/laws.FnSureParts", spec := "fnSureParts", unfollowed := true, recurses := true, apart := false, narrowed := true }
def FnSurePartsUptoSaid : Prop := fnSurePartsUptoRow.holds Try.pinned (OpenSpec.upto fnSurePartsSpec)

/-- 'laws.FnExactDistancesOf', WHERE WHAT IT READS IS OF BULK AT MOST 1048576: true; the input reads as it did. -/
def fnExactDistancesOfUptoRow : OpenClaim := { program := "yteiehniidihmdaa", sum := "f78c099d7934d92c09105d36c43407d4dd9ff728b9d340e5f3c604fd54461d02", func := "loop.example/beliefchanges/laws.FnExactDistancesOf", spec := "fnExactDistancesOf", unfollowed := true, recurses := true, apart := false, narrowed := true }
def FnExactDistancesOfUptoSaid : Prop := fnExactDistancesOfUptoRow.holds Try.pinned (OpenSpec.upto fnExactDistancesOfSpec)

/-- 'laws.FnExactRegretOf', WHERE WHAT IT READS IS OF BULK AT MOST 1048576: true; the input reads as it did. -/
def fnExactRegretOfUptoRow : OpenClaim := { program := "yteiehniidihmdaa", sum := "f78c099d7934d92c09105d36c43407d4dd9ff728b9d340e5f3c604fd54461d02", func := "loop.example/beliefchanges/laws.FnExactRegretOf", spec := "fnExactRegretOf", unfollowed := true, recurses := true, apart := false, narrowed := true }
def FnExactRegretOfUptoSaid : Prop := fnExactRegretOfUptoRow.holds Try.pinned (OpenSpec.upto fnExactRegretOfSpec)

/-- 'laws.FnDistancesOf', WHERE WHAT IT READS IS OF BULK AT MOST 1048576: true; the input reads as it did. -/
def fnDistancesOfUptoRow : OpenClaim := { program := "yteiehniidihmdaa", sum := "f78c099d7934d92c09105d36c43407d4dd9ff728b9d340e5f3c604fd54461d02", func := "loop.example/beliefchanges/laws.FnDistancesOf", spec := "fnDistancesOf", unfollowed := true, recurses := true, apart := false, narrowed := true }
def FnDistancesOfUptoSaid : Prop := fnDistancesOfUptoRow.holds Try.pinned (OpenSpec.upto fnDistancesOfSpec)

/-- 'laws.FnExactMergedBy', WHERE WHAT IT READS IS OF BULK AT MOST 1048576: true; the input reads as it did. -/
def fnExactMergedByUptoRow : OpenClaim := { program := "yteiehniidihmdaa", sum := "f78c099d7934d92c09105d36c43407d4dd9ff728b9d340e5f3c604fd54461d02", func := "loop.example/beliefchanges/laws.FnExactMergedBy", spec := "fnExactMergedBy", unfollowed := true, recurses := true, apart := false, narrowed := true }
def FnExactMergedByUptoSaid : Prop := fnExactMergedByUptoRow.holds Try.pinned (OpenSpec.upto fnExactMergedBySpec)

/-- 'laws.FnRegretOf', WHERE WHAT IT READS IS OF BULK AT MOST 1048576: true; the input reads as it did. -/
def fnRegretOfUptoRow : OpenClaim := { program := "yteiehniidihmdaa", sum := "f78c099d7934d92c09105d36c43407d4dd9ff728b9d340e5f3c604fd54461d02", func := "loop.example/beliefchanges/laws.FnRegretOf", spec := "fnRegretOf", unfollowed := true, recurses := true, apart := false, narrowed := true }
def FnRegretOfUptoSaid : Prop := fnRegretOfUptoRow.holds Try.pinned (OpenSpec.upto fnRegretOfSpec)

/-- 'laws.FnMergedBy', WHERE WHAT IT READS IS OF BULK AT MOST 1048576: true; the input reads as it did. -/
def fnMergedByUptoRow : OpenClaim := { program := "yteiehniidihmdaa", sum := "f78c099d7934d92c09105d36c43407d4dd9ff728b9d340e5f3c604fd54461d02", func := "loop.example/beliefchanges/laws.FnMergedBy", spec := "fnMergedBy", unfollowed := true, recurses := true, apart := false, narrowed := true }
def FnMergedByUptoSaid : Prop := fnMergedByUptoRow.holds Try.pinned (OpenSpec.upto fnMergedBySpec)

end Rows
end Go.Proofs.Yteiehniidihmdaa
