/-
  DERIVED. GIVEN WITH THE SEED: THE CARDS: each row of YtagfalmpanlabaaDoorRows.lean that lists a variable, with what it lists TIED to the program's text (the seventh form; the later family's looks); each row that meets fmt, with fmt's text TOLD by the authors' own Lean function (tested against real Go, not proved from fmt's source: count such statements apart). THE CARD IS WHAT COUNTS. Prove the row's statement (the work); the ties are given (YtagfalmpanlabaaDoorTie.lean); close each card by the builder's one call (the guide's Derived/Test/ToyasCard.lean, 'card_holds'). Laid BY PROGRAM, IN A SANDBOX (cutbox-door.mjs). By AI agents, Wed Nov 11 2026. No macro, syntax, notation, axiom, sorry.
-/
import Derived.Test.YtagfalmpanlabaaDoorRows
import GoSem.ClaimSeven
namespace Go.Proofs.YtagfalmpanlabaaDoor
namespace Rows

/-- THE TIED CARD OF 'laws.FnExactCodeWord'. -/
def fnExactCodeWordCard : Claim7 := { stood := { row := fnExactCodeWordRow, standIns := [], harness := (true, "a5b434aa81040b1492803dfe0177db432638e12e5099c10b72422604e9be9bf4"), looks := false }, kinds := [], alts := [], laidByText := true, laidKinds := [.listed, .data], laidTests := true, laidLooks := .later }
def FnExactCodeWordCardSaid : Prop := Claim7.holds Tryd.pinned (.plain (OpenSpec.ofChange fnExactCodeWordSpec)) fnExactCodeWordCard

/-- THE TIED CARD OF 'laws.FnExactOpName'. -/
def fnExactOpNameCard : Claim7 := { stood := { row := fnExactOpNameRow, standIns := [], harness := (true, "a5b434aa81040b1492803dfe0177db432638e12e5099c10b72422604e9be9bf4"), looks := false }, kinds := [], alts := [], laidByText := true, laidKinds := [.listed, .data], laidTests := true, laidLooks := .later }
def FnExactOpNameCardSaid : Prop := Claim7.holds Tryd.pinned (.plain (OpenSpec.ofChange fnExactOpNameSpec)) fnExactOpNameCard

/-- THE TIED CARD OF 'laws.FnExactCodeOf'. -/
def fnExactCodeOfCard : Claim7 := { stood := { row := fnExactCodeOfRow, standIns := [], harness := (true, "a5b434aa81040b1492803dfe0177db432638e12e5099c10b72422604e9be9bf4"), looks := false }, kinds := [], alts := [], laidByText := true, laidKinds := [.listed, .data], laidTests := true, laidLooks := .later }
def FnExactCodeOfCardSaid : Prop := Claim7.holds Tryd.pinned (.plain (OpenSpec.ofChange fnExactCodeOfSpec)) fnExactCodeOfCard

/-- THE TIED CARD OF 'laws.FnExactOpOf'. -/
def fnExactOpOfCard : Claim7 := { stood := { row := fnExactOpOfRow, standIns := [], harness := (true, "a5b434aa81040b1492803dfe0177db432638e12e5099c10b72422604e9be9bf4"), looks := false }, kinds := [], alts := [], laidByText := true, laidKinds := [.listed, .data], laidTests := true, laidLooks := .later }
def FnExactOpOfCardSaid : Prop := Claim7.holds Tryd.pinned (.plain (OpenSpec.ofChange fnExactOpOfSpec)) fnExactOpOfCard

/-- THE SECOND FORM's CARD OF 'laws.FnExactCodeWord'. -/
def fnExactCodeWordUptoCard : Claim7 := { stood := { row := fnExactCodeWordUptoRow, standIns := [], harness := (true, "a5b434aa81040b1492803dfe0177db432638e12e5099c10b72422604e9be9bf4"), looks := false }, kinds := [], alts := [], laidByText := true, laidKinds := [.listed, .data], laidTests := true, laidLooks := .later }
def FnExactCodeWordUptoCardSaid : Prop := Claim7.holds Tryd.pinned (.plain (OpenSpec.upto fnExactCodeWordSpec)) fnExactCodeWordUptoCard

/-- THE SECOND FORM's CARD OF 'laws.FnExactOpName'. -/
def fnExactOpNameUptoCard : Claim7 := { stood := { row := fnExactOpNameUptoRow, standIns := [], harness := (true, "a5b434aa81040b1492803dfe0177db432638e12e5099c10b72422604e9be9bf4"), looks := false }, kinds := [], alts := [], laidByText := true, laidKinds := [.listed, .data], laidTests := true, laidLooks := .later }
def FnExactOpNameUptoCardSaid : Prop := Claim7.holds Tryd.pinned (.plain (OpenSpec.upto fnExactOpNameSpec)) fnExactOpNameUptoCard

/-- THE SECOND FORM's CARD OF 'laws.FnExactCodeOf'. -/
def fnExactCodeOfUptoCard : Claim7 := { stood := { row := fnExactCodeOfUptoRow, standIns := [], harness := (true, "a5b434aa81040b1492803dfe0177db432638e12e5099c10b72422604e9be9bf4"), looks := false }, kinds := [], alts := [], laidByText := true, laidKinds := [.listed, .data], laidTests := true, laidLooks := .later }
def FnExactCodeOfUptoCardSaid : Prop := Claim7.holds Tryd.pinned (.plain (OpenSpec.upto fnExactCodeOfSpec)) fnExactCodeOfUptoCard

/-- THE SECOND FORM's CARD OF 'laws.FnExactOpOf'. -/
def fnExactOpOfUptoCard : Claim7 := { stood := { row := fnExactOpOfUptoRow, standIns := [], harness := (true, "a5b434aa81040b1492803dfe0177db432638e12e5099c10b72422604e9be9bf4"), looks := false }, kinds := [], alts := [], laidByText := true, laidKinds := [.listed, .data], laidTests := true, laidLooks := .later }
def FnExactOpOfUptoCardSaid : Prop := Claim7.holds Tryd.pinned (.plain (OpenSpec.upto fnExactOpOfSpec)) fnExactOpOfUptoCard
end Rows
end Go.Proofs.YtagfalmpanlabaaDoor
