/-
  DERIVED. GIVEN WITH THE SEED: THE CARDS: each row of YtihgpkohglcijaaGreatDoorRows.lean that lists a variable, with what it lists TIED to the program's text (the seventh form; the later family's looks); each row that meets fmt, with fmt's text TOLD by the authors' own Lean function (tested against real Go, not proved from fmt's source: count such statements apart). THE CARD IS WHAT COUNTS. Prove the row's statement (the work); the ties are given (YtihgpkohglcijaaGreatDoorTie.lean); close each card by the builder's one call (the guide's Derived/Test/ToyasCard.lean, 'card_holds'). Laid BY PROGRAM, IN A SANDBOX (cutbox-door.mjs). By AI agents, Wed Nov 11 2026. No macro, syntax, notation, axiom, sorry.
-/
import Derived.Test.YtihgpkohglcijaaGreatDoorRows
import GoSem.ClaimSeven
namespace Go.Proofs.YtihgpkohglcijaaGreatDoor
namespace Rows

/-- THE TIED CARD OF 'laws.FnMindLine'. -/
def fnMindLineCard : Claim7 := { stood := { row := fnMindLineRow, standIns := [], harness := (true, "cb30ea8f979f6b9780377dfa4a1b6eb3a1a837e0f6636e0d5744b4fa5f2912ad"), looks := false }, kinds := [], alts := [], laidByText := true, laidKinds := [.data, .data, .data], laidTests := true, laidLooks := .later }
def FnMindLineCardSaid : Prop := Claim7.holds Tryz.pinned (.plain (OpenSpec.ofChange fnMindLineSpec)) fnMindLineCard

/-- THE TIED CARD OF 'laws.FnMindSay'. -/
def fnMindSayCard : Claim7 := { stood := { row := fnMindSayRow, standIns := [], harness := (true, "cb30ea8f979f6b9780377dfa4a1b6eb3a1a837e0f6636e0d5744b4fa5f2912ad"), looks := false }, kinds := [], alts := [], laidByText := true, laidKinds := [.data, .data, .data], laidTests := true, laidLooks := .later }
def FnMindSayCardSaid : Prop := Claim7.holds Tryz.pinned (.plain (OpenSpec.ofChange fnMindSaySpec)) fnMindSayCard

/-- THE TIED CARD OF 'laws.FnExactMindSay'. -/
def fnExactMindSayCard : Claim7 := { stood := { row := fnExactMindSayRow, standIns := [], harness := (true, "cb30ea8f979f6b9780377dfa4a1b6eb3a1a837e0f6636e0d5744b4fa5f2912ad"), looks := false }, kinds := [], alts := [], laidByText := true, laidKinds := [.data, .data, .data], laidTests := true, laidLooks := .later }
def FnExactMindSayCardSaid : Prop := Claim7.holds Tryz.pinned (.plain (OpenSpec.ofChange fnExactMindSaySpec)) fnExactMindSayCard

/-- THE TIED CARD OF 'laws.FnReadJournal'. -/
def fnReadJournalCard : Claim7 := { stood := { row := fnReadJournalRow, standIns := [], harness := (true, "cb30ea8f979f6b9780377dfa4a1b6eb3a1a837e0f6636e0d5744b4fa5f2912ad"), looks := false }, kinds := [], alts := [], laidByText := true, laidKinds := [.data, .data, .data], laidTests := true, laidLooks := .later }
def FnReadJournalCardSaid : Prop := Claim7.holds Tryz.pinned (.plain (OpenSpec.ofChange fnReadJournalSpec)) fnReadJournalCard

/-- THE TIED CARD OF 'laws.FnExactMindLine'. -/
def fnExactMindLineCard : Claim7 := { stood := { row := fnExactMindLineRow, standIns := [], harness := (true, "cb30ea8f979f6b9780377dfa4a1b6eb3a1a837e0f6636e0d5744b4fa5f2912ad"), looks := false }, kinds := [], alts := [], laidByText := true, laidKinds := [.data, .data, .data], laidTests := true, laidLooks := .later }
def FnExactMindLineCardSaid : Prop := Claim7.holds Tryz.pinned (.plain (OpenSpec.ofChange fnExactMindLineSpec)) fnExactMindLineCard

/-- THE SECOND FORM's CARD OF 'laws.FnMindLine'. -/
def fnMindLineUptoCard : Claim7 := { stood := { row := fnMindLineUptoRow, standIns := [], harness := (true, "cb30ea8f979f6b9780377dfa4a1b6eb3a1a837e0f6636e0d5744b4fa5f2912ad"), looks := false }, kinds := [], alts := [], laidByText := true, laidKinds := [.data, .data, .data], laidTests := true, laidLooks := .later }
def FnMindLineUptoCardSaid : Prop := Claim7.holds Tryz.pinned (.plain (OpenSpec.upto fnMindLineSpec)) fnMindLineUptoCard

/-- THE SECOND FORM's CARD OF 'laws.FnMindSay'. -/
def fnMindSayUptoCard : Claim7 := { stood := { row := fnMindSayUptoRow, standIns := [], harness := (true, "cb30ea8f979f6b9780377dfa4a1b6eb3a1a837e0f6636e0d5744b4fa5f2912ad"), looks := false }, kinds := [], alts := [], laidByText := true, laidKinds := [.data, .data, .data], laidTests := true, laidLooks := .later }
def FnMindSayUptoCardSaid : Prop := Claim7.holds Tryz.pinned (.plain (OpenSpec.upto fnMindSaySpec)) fnMindSayUptoCard

/-- THE SECOND FORM's CARD OF 'laws.FnExactMindSay'. -/
def fnExactMindSayUptoCard : Claim7 := { stood := { row := fnExactMindSayUptoRow, standIns := [], harness := (true, "cb30ea8f979f6b9780377dfa4a1b6eb3a1a837e0f6636e0d5744b4fa5f2912ad"), looks := false }, kinds := [], alts := [], laidByText := true, laidKinds := [.data, .data, .data], laidTests := true, laidLooks := .later }
def FnExactMindSayUptoCardSaid : Prop := Claim7.holds Tryz.pinned (.plain (OpenSpec.upto fnExactMindSaySpec)) fnExactMindSayUptoCard

/-- THE SECOND FORM's CARD OF 'laws.FnReadJournal'. -/
def fnReadJournalUptoCard : Claim7 := { stood := { row := fnReadJournalUptoRow, standIns := [], harness := (true, "cb30ea8f979f6b9780377dfa4a1b6eb3a1a837e0f6636e0d5744b4fa5f2912ad"), looks := false }, kinds := [], alts := [], laidByText := true, laidKinds := [.data, .data, .data], laidTests := true, laidLooks := .later }
def FnReadJournalUptoCardSaid : Prop := Claim7.holds Tryz.pinned (.plain (OpenSpec.upto fnReadJournalSpec)) fnReadJournalUptoCard

/-- THE SECOND FORM's CARD OF 'laws.FnExactMindLine'. -/
def fnExactMindLineUptoCard : Claim7 := { stood := { row := fnExactMindLineUptoRow, standIns := [], harness := (true, "cb30ea8f979f6b9780377dfa4a1b6eb3a1a837e0f6636e0d5744b4fa5f2912ad"), looks := false }, kinds := [], alts := [], laidByText := true, laidKinds := [.data, .data, .data], laidTests := true, laidLooks := .later }
def FnExactMindLineUptoCardSaid : Prop := Claim7.holds Tryz.pinned (.plain (OpenSpec.upto fnExactMindLineSpec)) fnExactMindLineUptoCard
end Rows
end Go.Proofs.YtihgpkohglcijaaGreatDoor
