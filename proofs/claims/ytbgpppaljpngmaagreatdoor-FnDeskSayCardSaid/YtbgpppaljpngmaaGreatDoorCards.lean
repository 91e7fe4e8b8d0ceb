/-
  DERIVED. GIVEN WITH THE SEED: THE CARDS: each row of YtbgpppaljpngmaaGreatDoorRows.lean that lists a variable, with what it lists TIED to the program's text (the seventh form; the later family's looks); each row that meets fmt, with fmt's text TOLD by the authors' own Lean function (tested against real Go, not proved from fmt's source: count such statements apart). THE CARD IS WHAT COUNTS. Prove the row's statement (the work); the ties are given (YtbgpppaljpngmaaGreatDoorTie.lean); close each card by the builder's one call (the guide's Derived/Test/ToyasCard.lean, 'card_holds'). Laid BY PROGRAM, IN A SANDBOX (cutbox-door.mjs). By AI agents, Wed Nov 11 2026. No macro, syntax, notation, axiom, sorry.
-/
import Derived.Test.YtbgpppaljpngmaaGreatDoorRows
import GoSem.ClaimSeven
namespace Go.Proofs.YtbgpppaljpngmaaGreatDoor
namespace Rows

/-- THE TIED CARD OF 'laws.FnDeskLine'. -/
def fnDeskLineCard : Claim7 := { stood := { row := fnDeskLineRow, standIns := [], harness := (true, "dfbd15e4c5b6f642933c2ad7fba8adfce5be59eb7e21a9b3134cc4f2f2b00f9a"), looks := false }, kinds := [], alts := [], laidByText := true, laidKinds := [.data, .data, .data, .data, .pinned], laidTests := true, laidLooks := .later }
def FnDeskLineCardSaid : Prop := Claim7.holds Tryz.pinned (.plain (OpenSpec.ofChange fnDeskLineSpec)) fnDeskLineCard

/-- THE TIED CARD OF 'laws.FnDeskSay'. -/
def fnDeskSayCard : Claim7 := { stood := { row := fnDeskSayRow, standIns := [], harness := (true, "dfbd15e4c5b6f642933c2ad7fba8adfce5be59eb7e21a9b3134cc4f2f2b00f9a"), looks := false }, kinds := [], alts := [], laidByText := true, laidKinds := [.data, .data, .data, .data, .pinned], laidTests := true, laidLooks := .later }
def FnDeskSayCardSaid : Prop := Claim7.holds Tryz.pinned (.plain (OpenSpec.ofChange fnDeskSaySpec)) fnDeskSayCard

/-- THE TIED CARD OF 'laws.FnExactDeskSay'. -/
def fnExactDeskSayCard : Claim7 := { stood := { row := fnExactDeskSayRow, standIns := [], harness := (true, "dfbd15e4c5b6f642933c2ad7fba8adfce5be59eb7e21a9b3134cc4f2f2b00f9a"), looks := false }, kinds := [], alts := [], laidByText := true, laidKinds := [.data, .data, .data, .data, .pinned], laidTests := true, laidLooks := .later }
def FnExactDeskSayCardSaid : Prop := Claim7.holds Tryz.pinned (.plain (OpenSpec.ofChange fnExactDeskSaySpec)) fnExactDeskSayCard

/-- THE TIED CARD OF 'laws.FnDeskDo'. -/
def fnDeskDoCard : Claim7 := { stood := { row := fnDeskDoRow, standIns := [], harness := (true, "dfbd15e4c5b6f642933c2ad7fba8adfce5be59eb7e21a9b3134cc4f2f2b00f9a"), looks := false }, kinds := [], alts := [], laidByText := true, laidKinds := [.data, .data, .data, .data, .pinned], laidTests := true, laidLooks := .later }
def FnDeskDoCardSaid : Prop := Claim7.holds Tryz.pinned (.plain (OpenSpec.ofChange fnDeskDoSpec)) fnDeskDoCard

/-- THE TIED CARD OF 'laws.FnExactDeskDo'. -/
def fnExactDeskDoCard : Claim7 := { stood := { row := fnExactDeskDoRow, standIns := [], harness := (true, "dfbd15e4c5b6f642933c2ad7fba8adfce5be59eb7e21a9b3134cc4f2f2b00f9a"), looks := false }, kinds := [], alts := [], laidByText := true, laidKinds := [.data, .data, .data, .data, .pinned], laidTests := true, laidLooks := .later }
def FnExactDeskDoCardSaid : Prop := Claim7.holds Tryz.pinned (.plain (OpenSpec.ofChange fnExactDeskDoSpec)) fnExactDeskDoCard

/-- THE TIED CARD OF 'laws.FnDeskRun'. -/
def fnDeskRunCard : Claim7 := { stood := { row := fnDeskRunRow, standIns := [], harness := (true, "dfbd15e4c5b6f642933c2ad7fba8adfce5be59eb7e21a9b3134cc4f2f2b00f9a"), looks := false }, kinds := [], alts := [], laidByText := true, laidKinds := [.data, .data, .data, .data, .pinned], laidTests := true, laidLooks := .later }
def FnDeskRunCardSaid : Prop := Claim7.holds Tryz.pinned (.plain (OpenSpec.ofChange fnDeskRunSpec)) fnDeskRunCard

/-- THE TIED CARD OF 'laws.FnExactDeskRun'. -/
def fnExactDeskRunCard : Claim7 := { stood := { row := fnExactDeskRunRow, standIns := [], harness := (true, "dfbd15e4c5b6f642933c2ad7fba8adfce5be59eb7e21a9b3134cc4f2f2b00f9a"), looks := false }, kinds := [], alts := [], laidByText := true, laidKinds := [.data, .data, .data, .data, .pinned], laidTests := true, laidLooks := .later }
def FnExactDeskRunCardSaid : Prop := Claim7.holds Tryz.pinned (.plain (OpenSpec.ofChange fnExactDeskRunSpec)) fnExactDeskRunCard

/-- THE TIED CARD OF 'laws.FnReadJournal'. -/
def fnReadJournalCard : Claim7 := { stood := { row := fnReadJournalRow, standIns := [], harness := (true, "dfbd15e4c5b6f642933c2ad7fba8adfce5be59eb7e21a9b3134cc4f2f2b00f9a"), looks := false }, kinds := [], alts := [], laidByText := true, laidKinds := [.data, .data, .data, .data, .pinned], laidTests := true, laidLooks := .later }
def FnReadJournalCardSaid : Prop := Claim7.holds Tryz.pinned (.plain (OpenSpec.ofChange fnReadJournalSpec)) fnReadJournalCard

/-- THE TIED CARD OF 'laws.FnExactDeskLine'. -/
def fnExactDeskLineCard : Claim7 := { stood := { row := fnExactDeskLineRow, standIns := [], harness := (true, "dfbd15e4c5b6f642933c2ad7fba8adfce5be59eb7e21a9b3134cc4f2f2b00f9a"), looks := false }, kinds := [], alts := [], laidByText := true, laidKinds := [.data, .data, .data, .data, .pinned], laidTests := true, laidLooks := .later }
def FnExactDeskLineCardSaid : Prop := Claim7.holds Tryz.pinned (.plain (OpenSpec.ofChange fnExactDeskLineSpec)) fnExactDeskLineCard

/-- THE SECOND FORM's CARD OF 'laws.FnDeskLine'. -/
def fnDeskLineUptoCard : Claim7 := { stood := { row := fnDeskLineUptoRow, standIns := [], harness := (true, "dfbd15e4c5b6f642933c2ad7fba8adfce5be59eb7e21a9b3134cc4f2f2b00f9a"), looks := false }, kinds := [], alts := [], laidByText := true, laidKinds := [.data, .data, .data, .data, .pinned], laidTests := true, laidLooks := .later }
def FnDeskLineUptoCardSaid : Prop := Claim7.holds Tryz.pinned (.plain (OpenSpec.upto fnDeskLineSpec)) fnDeskLineUptoCard

/-- THE SECOND FORM's CARD OF 'laws.FnDeskSay'. -/
def fnDeskSayUptoCard : Claim7 := { stood := { row := fnDeskSayUptoRow, standIns := [], harness := (true, "dfbd15e4c5b6f642933c2ad7fba8adfce5be59eb7e21a9b3134cc4f2f2b00f9a"), looks := false }, kinds := [], alts := [], laidByText := true, laidKinds := [.data, .data, .data, .data, .pinned], laidTests := true, laidLooks := .later }
def FnDeskSayUptoCardSaid : Prop := Claim7.holds Tryz.pinned (.plain (OpenSpec.upto fnDeskSaySpec)) fnDeskSayUptoCard

/-- THE SECOND FORM's CARD OF 'laws.FnExactDeskSay'. -/
def fnExactDeskSayUptoCard : Claim7 := { stood := { row := fnExactDeskSayUptoRow, standIns := [], harness := (true, "dfbd15e4c5b6f642933c2ad7fba8adfce5be59eb7e21a9b3134cc4f2f2b00f9a"), looks := false }, kinds := [], alts := [], laidByText := true, laidKinds := [.data, .data, .data, .data, .pinned], laidTests := true, laidLooks := .later }
def FnExactDeskSayUptoCardSaid : Prop := Claim7.holds Tryz.pinned (.plain (OpenSpec.upto fnExactDeskSaySpec)) fnExactDeskSayUptoCard

/-- THE SECOND FORM's CARD OF 'laws.FnDeskDo'. -/
def fnDeskDoUptoCard : Claim7 := { stood := { row := fnDeskDoUptoRow, standIns := [], harness := (true, "dfbd15e4c5b6f642933c2ad7fba8adfce5be59eb7e21a9b3134cc4f2f2b00f9a"), looks := false }, kinds := [], alts := [], laidByText := true, laidKinds := [.data, .data, .data, .data, .pinned], laidTests := true, laidLooks := .later }
def FnDeskDoUptoCardSaid : Prop := Claim7.holds Tryz.pinned (.plain (OpenSpec.upto fnDeskDoSpec)) fnDeskDoUptoCard

/-- THE SECOND FORM's CARD OF 'laws.FnExactDeskDo'. -/
def fnExactDeskDoUptoCard : Claim7 := { stood := { row := fnExactDeskDoUptoRow, standIns := [], harness := (true, "dfbd15e4c5b6f642933c2ad7fba8adfce5be59eb7e21a9b3134cc4f2f2b00f9a"), looks := false }, kinds := [], alts := [], laidByText := true, laidKinds := [.data, .data, .data, .data, .pinned], laidTests := true, laidLooks := .later }
def FnExactDeskDoUptoCardSaid : Prop := Claim7.holds Tryz.pinned (.plain (OpenSpec.upto fnExactDeskDoSpec)) fnExactDeskDoUptoCard

/-- THE SECOND FORM's CARD OF 'laws.FnDeskRun'. -/
def fnDeskRunUptoCard : Claim7 := { stood := { row := fnDeskRunUptoRow, standIns := [], harness := (true, "dfbd15e4c5b6f642933c2ad7fba8adfce5be59eb7e21a9b3134cc4f2f2b00f9a"), looks := false }, kinds := [], alts := [], laidByText := true, laidKinds := [.data, .data, .data, .data, .pinned], laidTests := true, laidLooks := .later }
def FnDeskRunUptoCardSaid : Prop := Claim7.holds Tryz.pinned (.plain (OpenSpec.upto fnDeskRunSpec)) fnDeskRunUptoCard

/-- THE SECOND FORM's CARD OF 'laws.FnExactDeskRun'. -/
def fnExactDeskRunUptoCard : Claim7 := { stood := { row := fnExactDeskRunUptoRow, standIns := [], harness := (true, "dfbd15e4c5b6f642933c2ad7fba8adfce5be59eb7e21a9b3134cc4f2f2b00f9a"), looks := false }, kinds := [], alts := [], laidByText := true, laidKinds := [.data, .data, .data, .data, .pinned], laidTests := true, laidLooks := .later }
def FnExactDeskRunUptoCardSaid : Prop := Claim7.holds Tryz.pinned (.plain (OpenSpec.upto fnExactDeskRunSpec)) fnExactDeskRunUptoCard

/-- THE SECOND FORM's CARD OF 'laws.FnReadJournal'. -/
def fnReadJournalUptoCard : Claim7 := { stood := { row := fnReadJournalUptoRow, standIns := [], harness := (true, "dfbd15e4c5b6f642933c2ad7fba8adfce5be59eb7e21a9b3134cc4f2f2b00f9a"), looks := false }, kinds := [], alts := [], laidByText := true, laidKinds := [.data, .data, .data, .data, .pinned], laidTests := true, laidLooks := .later }
def FnReadJournalUptoCardSaid : Prop := Claim7.holds Tryz.pinned (.plain (OpenSpec.upto fnReadJournalSpec)) fnReadJournalUptoCard

/-- THE SECOND FORM's CARD OF 'laws.FnExactDeskLine'. -/
def fnExactDeskLineUptoCard : Claim7 := { stood := { row := fnExactDeskLineUptoRow, standIns := [], harness := (true, "dfbd15e4c5b6f642933c2ad7fba8adfce5be59eb7e21a9b3134cc4f2f2b00f9a"), looks := false }, kinds := [], alts := [], laidByText := true, laidKinds := [.data, .data, .data, .data, .pinned], laidTests := true, laidLooks := .later }
def FnExactDeskLineUptoCardSaid : Prop := Claim7.holds Tryz.pinned (.plain (OpenSpec.upto fnExactDeskLineSpec)) fnExactDeskLineUptoCard
end Rows
end Go.Proofs.YtbgpppaljpngmaaGreatDoor
