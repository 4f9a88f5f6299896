/-
  DERIVED. GIVEN WITH THE SEED: THE CARDS: each row of YtphicebbbkjdhaaDoorRows.lean that lists a variable, with what it lists TIED to the program's text (the seventh form; the later family's looks); each row that meets fmt, with fmt's text TOLD by the authors' own Lean function (tested against real Go, not proved from fmt's source: count such statements apart). THE CARD IS WHAT COUNTS. Prove the row's statement (the work); the ties are given (YtphicebbbkjdhaaDoorTie.lean); close each card by the builder's one call (the guide's Derived/Test/ToyasCard.lean, 'card_holds'). Laid BY PROGRAM, IN A SANDBOX (cutbox-door.mjs). By AI agents, Wed Nov 11 2026. No macro, syntax, notation, axiom, sorry.
-/
import Derived.Test.YtphicebbbkjdhaaDoorRows
import GoSem.ClaimSeven
namespace Go.Proofs.YtphicebbbkjdhaaDoor
namespace Rows

/-- THE TIED CARD OF 'laws.FnMoves'. -/
def fnMovesCard : Claim7 := { stood := { row := fnMovesRow, standIns := [], harness := (true, "f528f9896467f4099bb3320fa1d9936a544398ff336f6089fca73abaf0a76852"), looks := false }, kinds := [], alts := [], laidByText := true, laidKinds := [.data, .data, .data], laidTests := true, laidLooks := .later }
def FnMovesCardSaid : Prop := Claim7.holds Tryd.pinned (.plain (OpenSpec.ofChange fnMovesSpec)) fnMovesCard

/-- THE TIED CARD OF 'laws.FnHomes'. -/
def fnHomesCard : Claim7 := { stood := { row := fnHomesRow, standIns := [], harness := (true, "f528f9896467f4099bb3320fa1d9936a544398ff336f6089fca73abaf0a76852"), looks := false }, kinds := [], alts := [], laidByText := true, laidKinds := [.data, .data, .data], laidTests := true, laidLooks := .later }
def FnHomesCardSaid : Prop := Claim7.holds Tryd.pinned (.plain (OpenSpec.ofChange fnHomesSpec)) fnHomesCard

/-- THE TIED CARD OF 'laws.FnExactRingOf'. -/
def fnExactRingOfCard : Claim7 := { stood := { row := fnExactRingOfRow, standIns := [], harness := (true, "f528f9896467f4099bb3320fa1d9936a544398ff336f6089fca73abaf0a76852"), looks := false }, kinds := [], alts := [], laidByText := true, laidKinds := [.data, .data, .data], laidTests := true, laidLooks := .later }
def FnExactRingOfCardSaid : Prop := Claim7.holds Tryd.pinned (.plain (OpenSpec.ofChange fnExactRingOfSpec)) fnExactRingOfCard

/-- THE TIED CARD OF 'laws.FnRings'. -/
def fnRingsCard : Claim7 := { stood := { row := fnRingsRow, standIns := [], harness := (true, "f528f9896467f4099bb3320fa1d9936a544398ff336f6089fca73abaf0a76852"), looks := false }, kinds := [], alts := [], laidByText := true, laidKinds := [.data, .data, .data], laidTests := true, laidLooks := .later }
def FnRingsCardSaid : Prop := Claim7.holds Tryd.pinned (.plain (OpenSpec.ofChange fnRingsSpec)) fnRingsCard

/-- THE TIED CARD OF 'laws.FnExactRingOk'. -/
def fnExactRingOkCard : Claim7 := { stood := { row := fnExactRingOkRow, standIns := [], harness := (true, "f528f9896467f4099bb3320fa1d9936a544398ff336f6089fca73abaf0a76852"), looks := false }, kinds := [], alts := [], laidByText := true, laidKinds := [.data, .data, .data], laidTests := true, laidLooks := .later }
def FnExactRingOkCardSaid : Prop := Claim7.holds Tryd.pinned (.plain (OpenSpec.ofChange fnExactRingOkSpec)) fnExactRingOkCard

/-- THE SECOND FORM's CARD OF 'laws.FnMoves'. -/
def fnMovesUptoCard : Claim7 := { stood := { row := fnMovesUptoRow, standIns := [], harness := (true, "f528f9896467f4099bb3320fa1d9936a544398ff336f6089fca73abaf0a76852"), looks := false }, kinds := [], alts := [], laidByText := true, laidKinds := [.data, .data, .data], laidTests := true, laidLooks := .later }
def FnMovesUptoCardSaid : Prop := Claim7.holds Tryd.pinned (.plain (OpenSpec.upto fnMovesSpec)) fnMovesUptoCard

/-- THE SECOND FORM's CARD OF 'laws.FnHomes'. -/
def fnHomesUptoCard : Claim7 := { stood := { row := fnHomesUptoRow, standIns := [], harness := (true, "f528f9896467f4099bb3320fa1d9936a544398ff336f6089fca73abaf0a76852"), looks := false }, kinds := [], alts := [], laidByText := true, laidKinds := [.data, .data, .data], laidTests := true, laidLooks := .later }
def FnHomesUptoCardSaid : Prop := Claim7.holds Tryd.pinned (.plain (OpenSpec.upto fnHomesSpec)) fnHomesUptoCard

/-- THE SECOND FORM's CARD OF 'laws.FnExactRingOf'. -/
def fnExactRingOfUptoCard : Claim7 := { stood := { row := fnExactRingOfUptoRow, standIns := [], harness := (true, "f528f9896467f4099bb3320fa1d9936a544398ff336f6089fca73abaf0a76852"), looks := false }, kinds := [], alts := [], laidByText := true, laidKinds := [.data, .data, .data], laidTests := true, laidLooks := .later }
def FnExactRingOfUptoCardSaid : Prop := Claim7.holds Tryd.pinned (.plain (OpenSpec.upto fnExactRingOfSpec)) fnExactRingOfUptoCard

/-- THE SECOND FORM's CARD OF 'laws.FnRings'. -/
def fnRingsUptoCard : Claim7 := { stood := { row := fnRingsUptoRow, standIns := [], harness := (true, "f528f9896467f4099bb3320fa1d9936a544398ff336f6089fca73abaf0a76852"), looks := false }, kinds := [], alts := [], laidByText := true, laidKinds := [.data, .data, .data], laidTests := true, laidLooks := .later }
def FnRingsUptoCardSaid : Prop := Claim7.holds Tryd.pinned (.plain (OpenSpec.upto fnRingsSpec)) fnRingsUptoCard

/-- THE SECOND FORM's CARD OF 'laws.FnExactRingOk'. -/
def fnExactRingOkUptoCard : Claim7 := { stood := { row := fnExactRingOkUptoRow, standIns := [], harness := (true, "f528f9896467f4099bb3320fa1d9936a544398ff336f6089fca73abaf0a76852"), looks := false }, kinds := [], alts := [], laidByText := true, laidKinds := [.data, .data, .data], laidTests := true, laidLooks := .later }
def FnExactRingOkUptoCardSaid : Prop := Claim7.holds Tryd.pinned (.plain (OpenSpec.upto fnExactRingOkSpec)) fnExactRingOkUptoCard
end Rows
end Go.Proofs.YtphicebbbkjdhaaDoor
