/-
  DERIVED. GIVEN WITH THE SEED: THE CARDS: each row of YtigeaokfhnlkcaaGreatDoorRows.lean that lists a variable, with what it lists TIED to the program's text (the seventh form; the later family's looks); each row that meets fmt, with fmt's text TOLD by the authors' own Lean function (tested against real Go, not proved from fmt's source: count such statements apart). THE CARD IS WHAT COUNTS. Prove the row's statement (the work); the ties are given (YtigeaokfhnlkcaaGreatDoorTie.lean); close each card by the builder's one call (the guide's Derived/Test/ToyasCard.lean, 'card_holds'). Laid BY PROGRAM, IN A SANDBOX (cutbox-door.mjs). By AI agents, Wed Nov 11 2026. No macro, syntax, notation, axiom, sorry.
-/
import Derived.Test.YtigeaokfhnlkcaaGreatDoorRows
import GoSem.ClaimSeven
namespace Go.Proofs.YtigeaokfhnlkcaaGreatDoor
namespace Rows

/-- THE TIED CARD OF 'laws.FnMindSay'. -/
def fnMindSayCard : Claim7 := { stood := { row := fnMindSayRow, standIns := [], harness := (true, "c3bf22184adf576638838d75e39f0116f3be4aeeea96d459df0143338c608949"), looks := false }, kinds := [], alts := [], laidByText := true, laidKinds := [.data, .data, .data], laidTests := true, laidLooks := .later }
def FnMindSayCardSaid : Prop := Claim7.holds Tryz.pinned (.plain (OpenSpec.ofChange fnMindSaySpec)) fnMindSayCard

/-- THE TIED CARD OF 'laws.FnReadJournal'. -/
def fnReadJournalCard : Claim7 := { stood := { row := fnReadJournalRow, standIns := [], harness := (true, "c3bf22184adf576638838d75e39f0116f3be4aeeea96d459df0143338c608949"), looks := false }, kinds := [], alts := [], laidByText := true, laidKinds := [.data, .data, .data], laidTests := true, laidLooks := .later }
def FnReadJournalCardSaid : Prop := Claim7.holds Tryz.pinned (.plain (OpenSpec.ofChange fnReadJournalSpec)) fnReadJournalCard

/-- THE SECOND FORM's CARD OF 'laws.FnMindSay'. -/
def fnMindSayUptoCard : Claim7 := { stood := { row := fnMindSayUptoRow, standIns := [], harness := (true, "c3bf22184adf576638838d75e39f0116f3be4aeeea96d459df0143338c608949"), looks := false }, kinds := [], alts := [], laidByText := true, laidKinds := [.data, .data, .data], laidTests := true, laidLooks := .later }
def FnMindSayUptoCardSaid : Prop := Claim7.holds Tryz.pinned (.plain (OpenSpec.upto fnMindSaySpec)) fnMindSayUptoCard

/-- THE SECOND FORM's CARD OF 'laws.FnReadJournal'. -/
def fnReadJournalUptoCard : Claim7 := { stood := { row := fnReadJournalUptoRow, standIns := [], harness := (true, "c3bf22184adf576638838d75e39f0116f3be4aeeea96d459df0143338c608949"), looks := false }, kinds := [], alts := [], laidByText := true, laidKinds := [.data, .data, .data], laidTests := true, laidLooks := .later }
def FnReadJournalUptoCardSaid : Prop := Claim7.holds Tryz.pinned (.plain (OpenSpec.upto fnReadJournalSpec)) fnReadJournalUptoCard
end Rows
end Go.Proofs.YtigeaokfhnlkcaaGreatDoor
