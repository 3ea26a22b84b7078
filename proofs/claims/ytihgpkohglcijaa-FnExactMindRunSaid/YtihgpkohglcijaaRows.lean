/-
  No cell of these rows narrows 'for every input' (looked for: loops, veiled, ifaces, maps, wideKeys, modest, calm, conditions, laid).
  DERIVED. THE GIVEN ROWS OF THIS SEAT. 16 by the template 'for every input the law returns true; each argument reads behind the call as it read before'; 0 by the template 'total and deterministic' (their statements: YtihgpkohglcijaaTotals.lean).
  GIVEN WITH THE SEED: the statements are not yours to turn. If you find one false, say at which input.
  Laid BY PROGRAM, IN A SANDBOX (cutbox-rows.mjs): the forced cells as the released guide's own fill.sh prints them over the translation 2be8ddaa3da0a759… (all of the seat's roots in one cut). By AI agents, Wed Nov 11 2026. No macro, syntax, notation, axiom, sorry.
-/
import Derived.Test.YtihgpkohglcijaaChecked
import GoSem.Claim
import GoSem.ClaimJoined
import GoSem.ClaimMapViews
import Derived.JoinedTies
import Derived.KernelRfl
namespace Go.Proofs.Ytihgpkohglcijaa
/- THE CELL 'sum', in the pinned program and in every row, IS THE sha256 OF THE DUMP (.gsa) THAT YtihgpkohglcijaaProg.lean LOADS. Nothing in Lean hashes anything: it is a label: what it is worth is what the hold of that sum in a sandbox is worth. -/
noncomputable def Try.pinned : Pinned := { name := "ytihgpkohglcijaa", sum := "2be8ddaa3da0a759d27ec943485d5fde08357a10776fe69a97cbbb1e9721ed1f", checked := Try.checked }
namespace Rows
def none {H : Type} : Left H := { results := [], args := [] }

/-- 'laws.FnExactDeedText': WHATEVER THE INPUT: true; the input reads as it did. -/
def fnExactDeedTextSpec : ChangeSpec := { name := "fnExactDeedText", fn := fun _ => fun
  | [d] => { results := [.lit (.bool true)], args := [d] }
  | _ => none }
def fnExactDeedTextRow : OpenClaim := { program := "ytihgpkohglcijaa", sum := "2be8ddaa3da0a759d27ec943485d5fde08357a10776fe69a97cbbb1e9721ed1f", func := "loop.example/beliefchanges/laws.FnExactDeedText", spec := "fnExactDeedText", apart := false }
def FnExactDeedTextSaid : Prop := fnExactDeedTextRow.holds Try.pinned (OpenSpec.ofChange fnExactDeedTextSpec)

/-- ITS FALSE NEIGHBOUR: 'it returns false'. Refute it at one input. -/
def fnExactDeedTextWrong : ChangeSpec := { name := "fnExactDeedText", fn := fun _ => fun
  | [d] => { results := [.lit (.bool false)], args := [d] }
  | _ => none }
def FnExactDeedTextWrongFalsely : Prop := fnExactDeedTextRow.holds Try.pinned (OpenSpec.ofChange fnExactDeedTextWrong)

/-- 'laws.FnExactJournalText': WHATEVER THE INPUT: true; the input reads as it did. -/
def fnExactJournalTextSpec : ChangeSpec := { name := "fnExactJournalText", fn := fun _ => fun
  | [d] => { results := [.lit (.bool true)], args := [d] }
  | _ => none }
def fnExactJournalTextRow : OpenClaim := { program := "ytihgpkohglcijaa", sum := "2be8ddaa3da0a759d27ec943485d5fde08357a10776fe69a97cbbb1e9721ed1f", func := "loop.example/beliefchanges/laws.FnExactJournalText", spec := "fnExactJournalText", apart := false }
def FnExactJournalTextSaid : Prop := fnExactJournalTextRow.holds Try.pinned (OpenSpec.ofChange fnExactJournalTextSpec)

/-- ITS FALSE NEIGHBOUR: 'it returns false'. Refute it at one input. -/
def fnExactJournalTextWrong : ChangeSpec := { name := "fnExactJournalText", fn := fun _ => fun
  | [d] => { results := [.lit (.bool false)], args := [d] }
  | _ => none }
def FnExactJournalTextWrongFalsely : Prop := fnExactJournalTextRow.holds Try.pinned (OpenSpec.ofChange fnExactJournalTextWrong)

/-- 'laws.FnExactReadDeed': WHATEVER THE INPUT: true; the input reads as it did. -/
def fnExactReadDeedSpec : ChangeSpec := { name := "fnExactReadDeed", fn := fun _ => fun
  | [d] => { results := [.lit (.bool true)], args := [d] }
  | _ => none }
def fnExactReadDeedRow : OpenClaim := { program := "ytihgpkohglcijaa", sum := "2be8ddaa3da0a759d27ec943485d5fde08357a10776fe69a97cbbb1e9721ed1f", func := "loop.example/beliefchanges/laws.FnExactReadDeed", spec := "fnExactReadDeed", inPlace := ["internal/bytealg.IndexByteString", "internal/bytealg.IndexString"], named := ["internal/bytealg.MaxLen"], apart := false }
def FnExactReadDeedSaid : Prop := fnExactReadDeedRow.holds Try.pinned (OpenSpec.ofChange fnExactReadDeedSpec)

/-- ITS FALSE NEIGHBOUR: 'it returns false'. Refute it at one input. -/
def fnExactReadDeedWrong : ChangeSpec := { name := "fnExactReadDeed", fn := fun _ => fun
  | [d] => { results := [.lit (.bool false)], args := [d] }
  | _ => none }
def FnExactReadDeedWrongFalsely : Prop := fnExactReadDeedRow.holds Try.pinned (OpenSpec.ofChange fnExactReadDeedWrong)

/-- 'laws.FnExactReadJournal': WHATEVER THE INPUT: true; the input reads as it did. -/
def fnExactReadJournalSpec : ChangeSpec := { name := "fnExactReadJournal", fn := fun _ => fun
  | [d] => { results := [.lit (.bool true)], args := [d] }
  | _ => none }
def fnExactReadJournalRow : OpenClaim := { program := "ytihgpkohglcijaa", sum := "2be8ddaa3da0a759d27ec943485d5fde08357a10776fe69a97cbbb1e9721ed1f", func := "loop.example/beliefchanges/laws.FnExactReadJournal", spec := "fnExactReadJournal", inPlace := ["internal/bytealg.IndexByteString", "internal/bytealg.IndexString"], named := ["internal/bytealg.MaxLen"], apart := false }
def FnExactReadJournalSaid : Prop := fnExactReadJournalRow.holds Try.pinned (OpenSpec.ofChange fnExactReadJournalSpec)

/-- ITS FALSE NEIGHBOUR: 'it returns false'. Refute it at one input. -/
def fnExactReadJournalWrong : ChangeSpec := { name := "fnExactReadJournal", fn := fun _ => fun
  | [d] => { results := [.lit (.bool false)], args := [d] }
  | _ => none }
def FnExactReadJournalWrongFalsely : Prop := fnExactReadJournalRow.holds Try.pinned (OpenSpec.ofChange fnExactReadJournalWrong)

/-- 'laws.FnReadRule': WHATEVER THE INPUT: true; the input reads as it did. -/
def fnReadRuleSpec : ChangeSpec := { name := "fnReadRule", fn := fun _ => fun
  | [d] => { results := [.lit (.bool true)], args := [d] }
  | _ => none }
def fnReadRuleRow : OpenClaim := { program := "ytihgpkohglcijaa", sum := "2be8ddaa3da0a759d27ec943485d5fde08357a10776fe69a97cbbb1e9721ed1f", func := "loop.example/beliefchanges/laws.FnReadRule", spec := "fnReadRule", inPlace := ["internal/bytealg.IndexByteString", "internal/bytealg.IndexString"], unfollowed := true, recurses := true, named := ["internal/bytealg.MaxLen"], apart := false }
def FnReadRuleSaid : Prop := fnReadRuleRow.holds Try.pinned (OpenSpec.ofChange fnReadRuleSpec)

/-- ITS FALSE NEIGHBOUR: 'it returns false'. Refute it at one input. -/
def fnReadRuleWrong : ChangeSpec := { name := "fnReadRule", fn := fun _ => fun
  | [d] => { results := [.lit (.bool false)], args := [d] }
  | _ => none }
def FnReadRuleWrongFalsely : Prop := fnReadRuleRow.holds Try.pinned (OpenSpec.ofChange fnReadRuleWrong)

/-- 'laws.FnDeedText': WHATEVER THE INPUT: true; the input reads as it did. -/
def fnDeedTextSpec : ChangeSpec := { name := "fnDeedText", fn := fun _ => fun
  | [d] => { results := [.lit (.bool true)], args := [d] }
  | _ => none }
def fnDeedTextRow : OpenClaim := { program := "ytihgpkohglcijaa", sum := "2be8ddaa3da0a759d27ec943485d5fde08357a10776fe69a97cbbb1e9721ed1f", func := "loop.example/beliefchanges/laws.FnDeedText", spec := "fnDeedText", inPlace := ["internal/bytealg.IndexByteString", "internal/bytealg.IndexString"], recurses := true, named := ["internal/bytealg.MaxLen"], apart := false }
def FnDeedTextSaid : Prop := fnDeedTextRow.holds Try.pinned (OpenSpec.ofChange fnDeedTextSpec)

/-- ITS FALSE NEIGHBOUR: 'it returns false'. Refute it at one input. -/
def fnDeedTextWrong : ChangeSpec := { name := "fnDeedText", fn := fun _ => fun
  | [d] => { results := [.lit (.bool false)], args := [d] }
  | _ => none }
def FnDeedTextWrongFalsely : Prop := fnDeedTextRow.holds Try.pinned (OpenSpec.ofChange fnDeedTextWrong)

/-- 'laws.FnExactMindNew': WHATEVER THE INPUT: true; the input reads as it did. -/
def fnExactMindNewSpec : ChangeSpec := { name := "fnExactMindNew", fn := fun _ => fun
  | [d1, d2] => { results := [.lit (.bool true)], args := [d1, d2] }
  | _ => none }
def fnExactMindNewRow : OpenClaim := { program := "ytihgpkohglcijaa", sum := "2be8ddaa3da0a759d27ec943485d5fde08357a10776fe69a97cbbb1e9721ed1f", func := "loop.example/beliefchanges/laws.FnExactMindNew", spec := "fnExactMindNew", recurses := true, apart := false }
def FnExactMindNewSaid : Prop := fnExactMindNewRow.holds Try.pinned (OpenSpec.ofChange fnExactMindNewSpec)

/-- ITS FALSE NEIGHBOUR: 'it returns false'. Refute it at one input. -/
def fnExactMindNewWrong : ChangeSpec := { name := "fnExactMindNew", fn := fun _ => fun
  | [d1, d2] => { results := [.lit (.bool false)], args := [d1, d2] }
  | _ => none }
def FnExactMindNewWrongFalsely : Prop := fnExactMindNewRow.holds Try.pinned (OpenSpec.ofChange fnExactMindNewWrong)

/-- 'laws.FnReadDeed': WHATEVER THE INPUT: true; the input reads as it did. -/
def fnReadDeedSpec : ChangeSpec := { name := "fnReadDeed", fn := fun _ => fun
  | [d] => { results := [.lit (.bool true)], args := [d] }
  | _ => none }
def fnReadDeedRow : OpenClaim := { program := "ytihgpkohglcijaa", sum := "2be8ddaa3da0a759d27ec943485d5fde08357a10776fe69a97cbbb1e9721ed1f", func := "loop.example/beliefchanges/laws.FnReadDeed", spec := "fnReadDeed", inPlace := ["internal/bytealg.IndexByteString", "internal/bytealg.IndexString"], recurses := true, named := ["internal/bytealg.MaxLen"], apart := false }
def FnReadDeedSaid : Prop := fnReadDeedRow.holds Try.pinned (OpenSpec.ofChange fnReadDeedSpec)

/-- ITS FALSE NEIGHBOUR: 'it returns false'. Refute it at one input. -/
def fnReadDeedWrong : ChangeSpec := { name := "fnReadDeed", fn := fun _ => fun
  | [d] => { results := [.lit (.bool false)], args := [d] }
  | _ => none }
def FnReadDeedWrongFalsely : Prop := fnReadDeedRow.holds Try.pinned (OpenSpec.ofChange fnReadDeedWrong)

/-- 'laws.FnExactMindValid': WHATEVER THE INPUT: true; the input reads as it did. -/
def fnExactMindValidSpec : ChangeSpec := { name := "fnExactMindValid", fn := fun _ => fun
  | [d] => { results := [.lit (.bool true)], args := [d] }
  | _ => none }
def fnExactMindValidRow : OpenClaim := { program := "ytihgpkohglcijaa", sum := "2be8ddaa3da0a759d27ec943485d5fde08357a10776fe69a97cbbb1e9721ed1f", func := "loop.example/beliefchanges/laws.FnExactMindValid", spec := "fnExactMindValid", unfollowed := true, recurses := true, apart := false }
def FnExactMindValidSaid : Prop := fnExactMindValidRow.holds Try.pinned (OpenSpec.ofChange fnExactMindValidSpec)

/-- ITS FALSE NEIGHBOUR: 'it returns false'. Refute it at one input. -/
def fnExactMindValidWrong : ChangeSpec := { name := "fnExactMindValid", fn := fun _ => fun
  | [d] => { results := [.lit (.bool false)], args := [d] }
  | _ => none }
def FnExactMindValidWrongFalsely : Prop := fnExactMindValidRow.holds Try.pinned (OpenSpec.ofChange fnExactMindValidWrong)

/-- 'laws.FnJournalText': WHATEVER THE INPUT: true; the input reads as it did. -/
def fnJournalTextSpec : ChangeSpec := { name := "fnJournalText", fn := fun _ => fun
  | [d] => { results := [.lit (.bool true)], args := [d] }
  | _ => none }
def fnJournalTextRow : OpenClaim := { program := "ytihgpkohglcijaa", sum := "2be8ddaa3da0a759d27ec943485d5fde08357a10776fe69a97cbbb1e9721ed1f", func := "loop.example/beliefchanges/laws.FnJournalText", spec := "fnJournalText", inPlace := ["internal/bytealg.IndexByteString", "internal/bytealg.IndexString"], recurses := true, named := ["internal/bytealg.MaxLen"], apart := false }
def FnJournalTextSaid : Prop := fnJournalTextRow.holds Try.pinned (OpenSpec.ofChange fnJournalTextSpec)

/-- ITS FALSE NEIGHBOUR: 'it returns false'. Refute it at one input. -/
def fnJournalTextWrong : ChangeSpec := { name := "fnJournalText", fn := fun _ => fun
  | [d] => { results := [.lit (.bool false)], args := [d] }
  | _ => none }
def FnJournalTextWrongFalsely : Prop := fnJournalTextRow.holds Try.pinned (OpenSpec.ofChange fnJournalTextWrong)

/-- 'laws.FnMindNew': WHATEVER THE INPUT: true; the input reads as it did. -/
def fnMindNewSpec : ChangeSpec := { name := "fnMindNew", fn := fun _ => fun
  | [d] => { results := [.lit (.bool true)], args := [d] }
  | _ => none }
def fnMindNewRow : OpenClaim := { program := "ytihgpkohglcijaa", sum := "2be8ddaa3da0a759d27ec943485d5fde08357a10776fe69a97cbbb1e9721ed1f", func := "loop.example/beliefchanges/laws.FnMindNew", spec := "fnMindNew", unfollowed := true, recurses := true, apart := false }
def FnMindNewSaid : Prop := fnMindNewRow.holds Try.pinned (OpenSpec.ofChange fnMindNewSpec)

/-- ITS FALSE NEIGHBOUR: 'it returns false'. Refute it at one input. -/
def fnMindNewWrong : ChangeSpec := { name := "fnMindNew", fn := fun _ => fun
  | [d] => { results := [.lit (.bool false)], args := [d] }
  | _ => none }
def FnMindNewWrongFalsely : Prop := fnMindNewRow.holds Try.pinned (OpenSpec.ofChange fnMindNewWrong)

/-- 'laws.FnMindValid': WHATEVER THE INPUT: true; the input reads as it did. -/
def fnMindValidSpec : ChangeSpec := { name := "fnMindValid", fn := fun _ => fun
  | [d] => { results := [.lit (.bool true)], args := [d] }
  | _ => none }
def fnMindValidRow : OpenClaim := { program := "ytihgpkohglcijaa", sum := "2be8ddaa3da0a759d27ec943485d5fde08357a10776fe69a97cbbb1e9721ed1f", func := "loop.example/beliefchanges/laws.FnMindValid", spec := "fnMindValid", unfollowed := true, recurses := true, apart := false }
def FnMindValidSaid : Prop := fnMindValidRow.holds Try.pinned (OpenSpec.ofChange fnMindValidSpec)

/-- ITS FALSE NEIGHBOUR: 'it returns false'. Refute it at one input. -/
def fnMindValidWrong : ChangeSpec := { name := "fnMindValid", fn := fun _ => fun
  | [d] => { results := [.lit (.bool false)], args := [d] }
  | _ => none }
def FnMindValidWrongFalsely : Prop := fnMindValidRow.holds Try.pinned (OpenSpec.ofChange fnMindValidWrong)

/-- 'laws.FnExactMindDo': WHATEVER THE INPUT: true; the input reads as it did. -/
def fnExactMindDoSpec : ChangeSpec := { name := "fnExactMindDo", fn := fun _ => fun
  | [d1, d2] => { results := [.lit (.bool true)], args := [d1, d2] }
  | _ => none }
def fnExactMindDoRow : OpenClaim := { program := "ytihgpkohglcijaa", sum := "2be8ddaa3da0a759d27ec943485d5fde08357a10776fe69a97cbbb1e9721ed1f", func := "loop.example/beliefchanges/laws.FnExactMindDo", spec := "fnExactMindDo", unfollowed := true, recurses := true, apart := false }
def FnExactMindDoSaid : Prop := fnExactMindDoRow.holds Try.pinned (OpenSpec.ofChange fnExactMindDoSpec)

/-- ITS FALSE NEIGHBOUR: 'it returns false'. Refute it at one input. -/
def fnExactMindDoWrong : ChangeSpec := { name := "fnExactMindDo", fn := fun _ => fun
  | [d1, d2] => { results := [.lit (.bool false)], args := [d1, d2] }
  | _ => none }
def FnExactMindDoWrongFalsely : Prop := fnExactMindDoRow.holds Try.pinned (OpenSpec.ofChange fnExactMindDoWrong)

/-- 'laws.FnMindDo': WHATEVER THE INPUT: true; the input reads as it did. -/
def fnMindDoSpec : ChangeSpec := { name := "fnMindDo", fn := fun _ => fun
  | [d] => { results := [.lit (.bool true)], args := [d] }
  | _ => none }
def fnMindDoRow : OpenClaim := { program := "ytihgpkohglcijaa", sum := "2be8ddaa3da0a759d27ec943485d5fde08357a10776fe69a97cbbb1e9721ed1f", func := "loop.example/beliefchanges/laws.FnMindDo", spec := "fnMindDo", unfollowed := true, recurses := true, apart := false }
def FnMindDoSaid : Prop := fnMindDoRow.holds Try.pinned (OpenSpec.ofChange fnMindDoSpec)

/-- ITS FALSE NEIGHBOUR: 'it returns false'. Refute it at one input. -/
def fnMindDoWrong : ChangeSpec := { name := "fnMindDo", fn := fun _ => fun
  | [d] => { results := [.lit (.bool false)], args := [d] }
  | _ => none }
def FnMindDoWrongFalsely : Prop := fnMindDoRow.holds Try.pinned (OpenSpec.ofChange fnMindDoWrong)

/-- 'laws.FnMindRun': WHATEVER THE INPUT: true; the input reads as it did. -/
def fnMindRunSpec : ChangeSpec := { name := "fnMindRun", fn := fun _ => fun
  | [d] => { results := [.lit (.bool true)], args := [d] }
  | _ => none }
def fnMindRunRow : OpenClaim := { program := "ytihgpkohglcijaa", sum := "2be8ddaa3da0a759d27ec943485d5fde08357a10776fe69a97cbbb1e9721ed1f", func := "loop.example/beliefchanges/laws.FnMindRun", spec := "fnMindRun", unfollowed := true, recurses := true, apart := false }
def FnMindRunSaid : Prop := fnMindRunRow.holds Try.pinned (OpenSpec.ofChange fnMindRunSpec)

/-- ITS FALSE NEIGHBOUR: 'it returns false'. Refute it at one input. -/
def fnMindRunWrong : ChangeSpec := { name := "fnMindRun", fn := fun _ => fun
  | [d] => { results := [.lit (.bool false)], args := [d] }
  | _ => none }
def FnMindRunWrongFalsely : Prop := fnMindRunRow.holds Try.pinned (OpenSpec.ofChange fnMindRunWrong)

/-- 'laws.FnExactMindRun': WHATEVER THE INPUT: true; the input reads as it did. -/
def fnExactMindRunSpec : ChangeSpec := { name := "fnExactMindRun", fn := fun _ => fun
  | [d1, d2] => { results := [.lit (.bool true)], args := [d1, d2] }
  | _ => none }
def fnExactMindRunRow : OpenClaim := { program := "ytihgpkohglcijaa", sum := "2be8ddaa3da0a759d27ec943485d5fde08357a10776fe69a97cbbb1e9721ed1f", func := "loop.example/beliefchanges/laws.FnExactMindRun", spec := "fnExactMindRun", unfollowed := true, recurses := true, apart := false }
def FnExactMindRunSaid : Prop := fnExactMindRunRow.holds Try.pinned (OpenSpec.ofChange fnExactMindRunSpec)

/-- ITS FALSE NEIGHBOUR: 'it returns false'. Refute it at one input. -/
def fnExactMindRunWrong : ChangeSpec := { name := "fnExactMindRun", fn := fun _ => fun
  | [d1, d2] => { results := [.lit (.bool false)], args := [d1, d2] }
  | _ => none }
def FnExactMindRunWrongFalsely : Prop := fnExactMindRunRow.holds Try.pinned (OpenSpec.ofChange fnExactMindRunWrong)

/- THE SECOND FORM. 'bulk': how many values and letters a reading holds, each counted each time it is reached (what is shared counts as often as it is met; a slice's spare places count too). A statement '..UptoSaid' is the law's where the arguments, and the package variables that the reading takes, are together of bulk at most 1048576: NARROWER than '..Said'. Prove '..Said' where nothing that the law and all that it calls make is longer than what came in: it says more and counts as full. Else prove '..UptoSaid'. A law counts once. -/
mutual
def uptoBulk {H : Type} : DataW H → Nat
  | .lit (.string bytes) => bytes.length + 1
  | .lit _ => 1
  | .nil => 1
  | .ptr d => uptoBulk d + 1
  | .slice elems spare => uptoBulkAll elems + uptoBulkAll spare + 1
  | .agg parts => uptoBulkAll parts + 1
  | .iface _ d => uptoBulk d + 1
  | .map entries => uptoBulkEntries entries + 1
  | .held _ => 1
def uptoBulkAll {H : Type} : List (DataW H) → Nat
  | [] => 0
  | d :: r => uptoBulk d + uptoBulkAll r
def uptoBulkEntries {H : Type} : List (Lit × DataW H) → Nat
  | [] => 0
  | x :: r => uptoBulkEntry x + uptoBulkEntries r
def uptoBulkEntry {H : Type} : Lit × DataW H → Nat
  | (.string bytes, d) => bytes.length + uptoBulk d + 1
  | (_, d) => uptoBulk d + 1
 end
def uptoSmall : (H : Type) → List (DataW H) → Bool := fun _ ds => decide (uptoBulkAll ds ≤ 1048576)
def OpenSpec.upto (s : _root_.Go.ChangeSpec) : _root_.Go.OpenSpec := { _root_.Go.OpenSpec.ofChange s with cond := some uptoSmall }

/-- 'laws.FnExactDeedText', WHERE WHAT IT READS IS OF BULK AT MOST 1048576: true; the input reads as it did. -/
def fnExactDeedTextUptoRow : OpenClaim := { program := "ytihgpkohglcijaa", sum := "2be8ddaa3da0a759d27ec943485d5fde08357a10776fe69a97cbbb1e9721ed1f", func := "loop.example/beliefchanges/laws.FnExactDeedText", spec := "fnExactDeedText", apart := false, narrowed := true }
def FnExactDeedTextUptoSaid : Prop := fnExactDeedTextUptoRow.holds Try.pinned (OpenSpec.upto fnExactDeedTextSpec)

/-- 'laws.FnExactJournalText', WHERE WHAT IT READS IS OF BULK AT MOST 1048576: true; the input reads as it did. -/
def fnExactJournalTextUptoRow : OpenClaim := { program := "ytihgpkohglcijaa", sum := "2be8ddaa3da0a759d27ec943485d5fde08357a10776fe69a97cbbb1e9721ed1f", func := "loop.example/beliefchanges/laws.FnExactJournalText", spec := "fnExactJournalText", apart := false, narrowed := true }
def FnExactJournalTextUptoSaid : Prop := fnExactJournalTextUptoRow.holds Try.pinned (OpenSpec.upto fnExactJournalTextSpec)

/-- 'laws.FnExactReadDeed', WHERE WHAT IT READS IS OF BULK AT MOST 1048576: true; the input reads as it did. -/
def fnExactReadDeedUptoRow : OpenClaim := { program := "ytihgpkohglcijaa", sum := "2be8ddaa3da0a759d27ec943485d5fde08357a10776fe69a97cbbb1e9721ed1f", func := "loop.example/beliefchanges/laws.FnExactReadDeed", spec := "fnExactReadDeed", inPlace := ["internal/bytealg.IndexByteString", "internal/bytealg.IndexString"], named := ["internal/bytealg.MaxLen"], apart := false, narrowed := true }
def FnExactReadDeedUptoSaid : Prop := fnExactReadDeedUptoRow.holds Try.pinned (OpenSpec.upto fnExactReadDeedSpec)

/-- 'laws.FnExactReadJournal', WHERE WHAT IT READS IS OF BULK AT MOST 1048576: true; the input reads as it did. -/
def fnExactReadJournalUptoRow : OpenClaim := { program := "ytihgpkohglcijaa", sum := "2be8ddaa3da0a759d27ec943485d5fde08357a10776fe69a97cbbb1e9721ed1f", func := "loop.example/beliefchanges/laws.FnExactReadJournal", spec := "fnExactReadJournal", inPlace := ["internal/bytealg.IndexByteString", "internal/bytealg.IndexString"], named := ["internal/bytealg.MaxLen"], apart := false, narrowed := true }
def FnExactReadJournalUptoSaid : Prop := fnExactReadJournalUptoRow.holds Try.pinned (OpenSpec.upto fnExactReadJournalSpec)

/-- 'laws.FnReadRule', WHERE WHAT IT READS IS OF BULK AT MOST 1048576: true; the input reads as it did. -/
def fnReadRuleUptoRow : OpenClaim := { program := "ytihgpkohglcijaa", sum := "2be8ddaa3da0a759d27ec943485d5fde08357a10776fe69a97cbbb1e9721ed1f", func := "loop.example/beliefchanges/laws.FnReadRule", spec := "fnReadRule", inPlace := ["internal/bytealg.IndexByteString", "internal/bytealg.IndexString"], unfollowed := true, recurses := true, named := ["internal/bytealg.MaxLen"], apart := false, narrowed := true }
def FnReadRuleUptoSaid : Prop := fnReadRuleUptoRow.holds Try.pinned (OpenSpec.upto fnReadRuleSpec)

/-- 'laws.FnDeedText', WHERE WHAT IT READS IS OF BULK AT MOST 1048576: true; the input reads as it did. -/
def fnDeedTextUptoRow : OpenClaim := { program := "ytihgpkohglcijaa", sum := "2be8ddaa3da0a759d27ec943485d5fde08357a10776fe69a97cbbb1e9721ed1f", func := "loop.example/beliefchanges/laws.FnDeedText", spec := "fnDeedText", inPlace := ["internal/bytealg.IndexByteString", "internal/bytealg.IndexString"], recurses := true, named := ["internal/bytealg.MaxLen"], apart := false, narrowed := true }
def FnDeedTextUptoSaid : Prop := fnDeedTextUptoRow.holds Try.pinned (OpenSpec.upto fnDeedTextSpec)

/-- 'laws.FnExactMindNew', WHERE WHAT IT READS IS OF BULK AT MOST 1048576: true; the input reads as it did. -/
def fnExactMindNewUptoRow : OpenClaim := { program := "ytihgpkohglcijaa", sum := "2be8ddaa3da0a759d27ec943485d5fde08357a10776fe69a97cbbb1e9721ed1f", func := "loop.example/beliefchanges/laws.FnExactMindNew", spec := "fnExactMindNew", recurses := true, apart := false, narrowed := true }
def FnExactMindNewUptoSaid : Prop := fnExactMindNewUptoRow.holds Try.pinned (OpenSpec.upto fnExactMindNewSpec)

/-- 'laws.FnReadDeed', WHERE WHAT IT READS IS OF BULK AT MOST 1048576: true; the input reads as it did. -/
def fnReadDeedUptoRow : OpenClaim := { program := "ytihgpkohglcijaa", sum := "2be8ddaa3da0a759d27ec943485d5fde08357a10776fe69a97cbbb1e9721ed1f", func := "loop.example/beliefchanges/laws.FnReadDeed", spec := "fnReadDeed", inPlace := ["internal/bytealg.IndexByteString", "internal/bytealg.IndexString"], recurses := true, named := ["internal/bytealg.MaxLen"], apart := false, narrowed := true }
def FnReadDeedUptoSaid : Prop := fnReadDeedUptoRow.holds Try.pinned (OpenSpec.upto fnReadDeedSpec)

/-- 'laws.FnExactMindValid', WHERE WHAT IT READS IS OF BULK AT MOST 1048576: true; the input reads as it did. -/
def fnExactMindValidUptoRow : OpenClaim := { program := "ytihgpkohglcijaa", sum := "2be8ddaa3da0a759d27ec943485d5fde08357a10776fe69a97cbbb1e9721ed1f", func := "loop.example/beliefchanges/laws.FnExactMindValid", spec := "fnExactMindValid", unfollowed := true, recurses := true, apart := false, narrowed := true }
def FnExactMindValidUptoSaid : Prop := fnExactMindValidUptoRow.holds Try.pinned (OpenSpec.upto fnExactMindValidSpec)

/-- 'laws.FnJournalText', WHERE WHAT IT READS IS OF BULK AT MOST 1048576: true; the input reads as it did. -/
def fnJournalTextUptoRow : OpenClaim := { program := "ytihgpkohglcijaa", sum := "2be8ddaa3da0a759d27ec943485d5fde08357a10776fe69a97cbbb1e9721ed1f", func := "loop.example/beliefchanges/laws.FnJournalText", spec := "fnJournalText", inPlace := ["internal/bytealg.IndexByteString", "internal/bytealg.IndexString"], recurses := true, named := ["internal/bytealg.MaxLen"], apart := false, narrowed := true }
def FnJournalTextUptoSaid : Prop := fnJournalTextUptoRow.holds Try.pinned (OpenSpec.upto fnJournalTextSpec)

/-- 'laws.FnMindNew', WHERE WHAT IT READS IS OF BULK AT MOST 1048576: true; the input reads as it did. -/
def fnMindNewUptoRow : OpenClaim := { program := "ytihgpkohglcijaa", sum := "2be8ddaa3da0a759d27ec943485d5fde08357a10776fe69a97cbbb1e9721ed1f", func := "loop.example/beliefchanges/laws.FnMindNew", spec := "fnMindNew", unfollowed := true, recurses := true, apart := false, narrowed := true }
def FnMindNewUptoSaid : Prop := fnMindNewUptoRow.holds Try.pinned (OpenSpec.upto fnMindNewSpec)

/-- 'laws.FnMindValid', WHERE WHAT IT READS IS OF BULK AT MOST 1048576: true; the input reads as it did. -/
def fnMindValidUptoRow : OpenClaim := { program := "ytihgpkohglcijaa", sum := "2be8ddaa3da0a759d27ec943485d5fde08357a10776fe69a97cbbb1e9721ed1f", func := "loop.example/beliefchanges/laws.FnMindValid", spec := "fnMindValid", unfollowed := true, recurses := true, apart := false, narrowed := true }
def FnMindValidUptoSaid : Prop := fnMindValidUptoRow.holds Try.pinned (OpenSpec.upto fnMindValidSpec)

/-- 'laws.FnExactMindDo', WHERE WHAT IT READS IS OF BULK AT MOST 1048576: true; the input reads as it did. -/
def fnExactMindDoUptoRow : OpenClaim := { program := "ytihgpkohglcijaa", sum := "2be8ddaa3da0a759d27ec943485d5fde08357a10776fe69a97cbbb1e9721ed1f", func := "loop.example/beliefchanges/laws.FnExactMindDo", spec := "fnExactMindDo", unfollowed := true, recurses := true, apart := false, narrowed := true }
def FnExactMindDoUptoSaid : Prop := fnExactMindDoUptoRow.holds Try.pinned (OpenSpec.upto fnExactMindDoSpec)

/-- 'laws.FnMindDo', WHERE WHAT IT READS IS OF BULK AT MOST 1048576: true; the input reads as it did. -/
def fnMindDoUptoRow : OpenClaim := { program := "ytihgpkohglcijaa", sum := "2be8ddaa3da0a759d27ec943485d5fde08357a10776fe69a97cbbb1e9721ed1f", func := "loop.example/beliefchanges/laws.FnMindDo", spec := "fnMindDo", unfollowed := true, recurses := true, apart := false, narrowed := true }
def FnMindDoUptoSaid : Prop := fnMindDoUptoRow.holds Try.pinned (OpenSpec.upto fnMindDoSpec)

/-- 'laws.FnMindRun', WHERE WHAT IT READS IS OF BULK AT MOST 1048576: true; the input reads as it did. -/
def fnMindRunUptoRow : OpenClaim := { program := "ytihgpkohglcijaa", sum := "2be8ddaa3da0a759d27ec943485d5fde08357a10776fe69a97cbbb1e9721ed1f", func := "loop.example/beliefchanges/laws.FnMindRun", spec := "fnMindRun", unfollowed := true, recurses := true, apart := false, narrowed := true }
def FnMindRunUptoSaid : Prop := fnMindRunUptoRow.holds Try.pinned (OpenSpec.upto fnMindRunSpec)

/-- 'laws.FnExactMindRun', WHERE WHAT IT READS IS OF BULK AT MOST 1048576: true; the input reads as it did. -/
def fnExactMindRunUptoRow : OpenClaim := { program := "ytihgpkohglcijaa", sum := "2be8ddaa3da0a759d27ec943485d5fde08357a10776fe69a97cbbb1e9721ed1f", func := "loop.example/beliefchanges/laws.FnExactMindRun", spec := "fnExactMindRun", unfollowed := true, recurses := true, apart := false, narrowed := true }
def FnExactMindRunUptoSaid : Prop := fnExactMindRunUptoRow.holds Try.pinned (OpenSpec.upto fnExactMindRunSpec)

end Rows
end Go.Proofs.Ytihgpkohglcijaa
