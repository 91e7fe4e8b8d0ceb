/-
  DERIVED. GIVEN WITH THE SEED: THE CARDS: each row of YtgphoihilheoeaaGreatDoorRows.lean that lists a variable, with what it lists TIED to the program's text (the seventh form; the later family's looks); each row that meets fmt, with fmt's text TOLD by the authors' own Lean function (tested against real Go, not proved from fmt's source: count such statements apart). THE CARD IS WHAT COUNTS. Prove the row's statement (the work); the ties are given (YtgphoihilheoeaaGreatDoorTie.lean); close each card by the builder's one call (the guide's Derived/Test/ToyasCard.lean, 'card_holds'). Laid BY PROGRAM, IN A SANDBOX (cutbox-door.mjs). By AI agents, Wed Nov 11 2026. No macro, syntax, notation, axiom, sorry.
-/
import Derived.Test.YtgphoihilheoeaaGreatDoorRows
import GoSem.ClaimSeven
namespace Go.Proofs.YtgphoihilheoeaaGreatDoor
namespace Rows

/-- THE TIED CARD OF 'laws.FnExactDeskOk'. -/
def fnExactDeskOkCard : Claim7 := { stood := { row := fnExactDeskOkRow, standIns := [], harness := (true, "4bcf144e6545d9df2ade7ad1d61d71e528976088ab4174b63062c318a1723dfd"), looks := false }, kinds := [], alts := [], laidByText := true, laidKinds := [.data, .data, .data], laidTests := true, laidLooks := .later }
def FnExactDeskOkCardSaid : Prop := Claim7.holds Tryz.pinned (.plain (OpenSpec.ofChange fnExactDeskOkSpec)) fnExactDeskOkCard

/-- THE TIED CARD OF 'laws.FnDeskNew'. -/
def fnDeskNewCard : Claim7 := { stood := { row := fnDeskNewRow, standIns := [], harness := (true, "4bcf144e6545d9df2ade7ad1d61d71e528976088ab4174b63062c318a1723dfd"), looks := false }, kinds := [], alts := [], laidByText := true, laidKinds := [.data, .data, .data], laidTests := true, laidLooks := .later }
def FnDeskNewCardSaid : Prop := Claim7.holds Tryz.pinned (.plain (OpenSpec.ofChange fnDeskNewSpec)) fnDeskNewCard

/-- THE TIED CARD OF 'laws.FnDeskOk'. -/
def fnDeskOkCard : Claim7 := { stood := { row := fnDeskOkRow, standIns := [], harness := (true, "4bcf144e6545d9df2ade7ad1d61d71e528976088ab4174b63062c318a1723dfd"), looks := false }, kinds := [], alts := [], laidByText := true, laidKinds := [.data, .data, .data], laidTests := true, laidLooks := .later }
def FnDeskOkCardSaid : Prop := Claim7.holds Tryz.pinned (.plain (OpenSpec.ofChange fnDeskOkSpec)) fnDeskOkCard

/-- THE SECOND FORM's CARD OF 'laws.FnExactDeskOk'. -/
def fnExactDeskOkUptoCard : Claim7 := { stood := { row := fnExactDeskOkUptoRow, standIns := [], harness := (true, "4bcf144e6545d9df2ade7ad1d61d71e528976088ab4174b63062c318a1723dfd"), looks := false }, kinds := [], alts := [], laidByText := true, laidKinds := [.data, .data, .data], laidTests := true, laidLooks := .later }
def FnExactDeskOkUptoCardSaid : Prop := Claim7.holds Tryz.pinned (.plain (OpenSpec.upto fnExactDeskOkSpec)) fnExactDeskOkUptoCard

/-- THE SECOND FORM's CARD OF 'laws.FnDeskNew'. -/
def fnDeskNewUptoCard : Claim7 := { stood := { row := fnDeskNewUptoRow, standIns := [], harness := (true, "4bcf144e6545d9df2ade7ad1d61d71e528976088ab4174b63062c318a1723dfd"), looks := false }, kinds := [], alts := [], laidByText := true, laidKinds := [.data, .data, .data], laidTests := true, laidLooks := .later }
def FnDeskNewUptoCardSaid : Prop := Claim7.holds Tryz.pinned (.plain (OpenSpec.upto fnDeskNewSpec)) fnDeskNewUptoCard

/-- THE SECOND FORM's CARD OF 'laws.FnDeskOk'. -/
def fnDeskOkUptoCard : Claim7 := { stood := { row := fnDeskOkUptoRow, standIns := [], harness := (true, "4bcf144e6545d9df2ade7ad1d61d71e528976088ab4174b63062c318a1723dfd"), looks := false }, kinds := [], alts := [], laidByText := true, laidKinds := [.data, .data, .data], laidTests := true, laidLooks := .later }
def FnDeskOkUptoCardSaid : Prop := Claim7.holds Tryz.pinned (.plain (OpenSpec.upto fnDeskOkSpec)) fnDeskOkUptoCard
end Rows
end Go.Proofs.YtgphoihilheoeaaGreatDoor
