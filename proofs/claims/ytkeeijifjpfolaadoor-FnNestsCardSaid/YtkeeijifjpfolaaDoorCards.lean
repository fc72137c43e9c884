/-
  DERIVED. GIVEN WITH THE SEED: THE CARDS: each row of YtkeeijifjpfolaaDoorRows.lean that lists a variable, with what it lists TIED to the program's text (the seventh form; the later family's looks); each row that meets fmt, with fmt's text TOLD by the authors' own Lean function (tested against real Go, not proved from fmt's source: count such statements apart). THE CARD IS WHAT COUNTS. Prove the row's statement (the work); the ties are given (YtkeeijifjpfolaaDoorTie.lean); close each card by the builder's one call (the guide's Derived/Test/ToyasCard.lean, 'card_holds'). Laid BY PROGRAM, IN A SANDBOX (cutbox-door.mjs). By AI agents, Wed Nov 11 2026. No macro, syntax, notation, axiom, sorry.
-/
import Derived.Test.YtkeeijifjpfolaaDoorRows
import GoSem.ClaimSeven
namespace Go.Proofs.YtkeeijifjpfolaaDoor
namespace Rows

/-- THE TIED CARD OF 'laws.FnNests'. -/
def fnNestsCard : Claim7 := { stood := { row := fnNestsRow, standIns := [], harness := (true, "1083be0ad378d98ba4ac2332d61459f99c00e0911654133a235a939305d5b943"), looks := false }, kinds := [], alts := [], laidByText := true, laidKinds := [.listed, .data], laidTests := true, laidLooks := .later }
def FnNestsCardSaid : Prop := Claim7.holds Tryd.pinned (.plain (OpenSpec.ofChange fnNestsSpec)) fnNestsCard

/-- THE SECOND FORM's CARD OF 'laws.FnNests'. -/
def fnNestsUptoCard : Claim7 := { stood := { row := fnNestsUptoRow, standIns := [], harness := (true, "1083be0ad378d98ba4ac2332d61459f99c00e0911654133a235a939305d5b943"), looks := false }, kinds := [], alts := [], laidByText := true, laidKinds := [.listed, .data], laidTests := true, laidLooks := .later }
def FnNestsUptoCardSaid : Prop := Claim7.holds Tryd.pinned (.plain (OpenSpec.upto fnNestsSpec)) fnNestsUptoCard
end Rows
end Go.Proofs.YtkeeijifjpfolaaDoor
