/-
  DERIVED. GIVEN WITH THE SEED: THE CARDS: each row of YtjgdfbcjlebniaaDoorRows.lean that lists a variable, with what it lists TIED to the program's text (the seventh form; the later family's looks); each row that meets fmt, with fmt's text TOLD by the authors' own Lean function (tested against real Go, not proved from fmt's source: count such statements apart). THE CARD IS WHAT COUNTS. Prove the row's statement (the work); the ties are given (YtjgdfbcjlebniaaDoorTie.lean); close each card by the builder's one call (the guide's Derived/Test/ToyasCard.lean, 'card_holds'). Laid BY PROGRAM, IN A SANDBOX (cutbox-door.mjs). By AI agents, Wed Nov 11 2026. No macro, syntax, notation, axiom, sorry.
-/
import Derived.Test.YtjgdfbcjlebniaaDoorRows
import GoSem.ClaimSeven
namespace Go.Proofs.YtjgdfbcjlebniaaDoor
namespace Rows

/-- THE TIED CARD OF 'laws.FnExactFbText'. -/
def fnExactFbTextCard : Claim7 := { stood := { row := fnExactFbTextRow, standIns := [], harness := (true, "47d084c603a420e989eb15adc428b4ad82a1d4bd393e058c2c636265c8713f70"), looks := false }, kinds := [], alts := [], laidByText := true, laidKinds := [.data, .data, .data], laidTests := true, laidLooks := .later }
def FnExactFbTextCardSaid : Prop := Claim7.holds Tryd.pinned (.plain (OpenSpec.ofChange fnExactFbTextSpec)) fnExactFbTextCard

/-- THE TIED CARD OF 'laws.FnNests'. -/
def fnNestsCard : Claim7 := { stood := { row := fnNestsRow, standIns := [], harness := (true, "47d084c603a420e989eb15adc428b4ad82a1d4bd393e058c2c636265c8713f70"), looks := false }, kinds := [], alts := [], laidByText := true, laidKinds := [.listed, .data], laidTests := true, laidLooks := .later }
def FnNestsCardSaid : Prop := Claim7.holds Tryd.pinned (.plain (OpenSpec.ofChange fnNestsSpec)) fnNestsCard

/-- THE TIED CARD OF 'laws.FnBlocks'. -/
def fnBlocksCard : Claim7 := { stood := { row := fnBlocksRow, standIns := [], harness := (true, "47d084c603a420e989eb15adc428b4ad82a1d4bd393e058c2c636265c8713f70"), looks := false }, kinds := [], alts := [], laidByText := true, laidKinds := [.data, .data, .data], laidTests := true, laidLooks := .later }
def FnBlocksCardSaid : Prop := Claim7.holds Tryd.pinned (.plain (OpenSpec.ofChange fnBlocksSpec)) fnBlocksCard

/-- THE TIED CARD OF 'laws.FnExactInstrText'. -/
def fnExactInstrTextCard : Claim7 := { stood := { row := fnExactInstrTextRow, standIns := [], harness := (true, "47d084c603a420e989eb15adc428b4ad82a1d4bd393e058c2c636265c8713f70"), looks := false }, kinds := [], alts := [], laidByText := true, laidKinds := [.data, .data, .data, .listed, .data], laidTests := true, laidLooks := .later }
def FnExactInstrTextCardSaid : Prop := Claim7.holds Tryd.pinned (.plain (OpenSpec.ofChange fnExactInstrTextSpec)) fnExactInstrTextCard

/-- THE SECOND FORM's CARD OF 'laws.FnExactFbText'. -/
def fnExactFbTextUptoCard : Claim7 := { stood := { row := fnExactFbTextUptoRow, standIns := [], harness := (true, "47d084c603a420e989eb15adc428b4ad82a1d4bd393e058c2c636265c8713f70"), looks := false }, kinds := [], alts := [], laidByText := true, laidKinds := [.data, .data, .data], laidTests := true, laidLooks := .later }
def FnExactFbTextUptoCardSaid : Prop := Claim7.holds Tryd.pinned (.plain (OpenSpec.upto fnExactFbTextSpec)) fnExactFbTextUptoCard

/-- THE SECOND FORM's CARD OF 'laws.FnNests'. -/
def fnNestsUptoCard : Claim7 := { stood := { row := fnNestsUptoRow, standIns := [], harness := (true, "47d084c603a420e989eb15adc428b4ad82a1d4bd393e058c2c636265c8713f70"), looks := false }, kinds := [], alts := [], laidByText := true, laidKinds := [.listed, .data], laidTests := true, laidLooks := .later }
def FnNestsUptoCardSaid : Prop := Claim7.holds Tryd.pinned (.plain (OpenSpec.upto fnNestsSpec)) fnNestsUptoCard

/-- THE SECOND FORM's CARD OF 'laws.FnBlocks'. -/
def fnBlocksUptoCard : Claim7 := { stood := { row := fnBlocksUptoRow, standIns := [], harness := (true, "47d084c603a420e989eb15adc428b4ad82a1d4bd393e058c2c636265c8713f70"), looks := false }, kinds := [], alts := [], laidByText := true, laidKinds := [.data, .data, .data], laidTests := true, laidLooks := .later }
def FnBlocksUptoCardSaid : Prop := Claim7.holds Tryd.pinned (.plain (OpenSpec.upto fnBlocksSpec)) fnBlocksUptoCard

/-- THE SECOND FORM's CARD OF 'laws.FnExactInstrText'. -/
def fnExactInstrTextUptoCard : Claim7 := { stood := { row := fnExactInstrTextUptoRow, standIns := [], harness := (true, "47d084c603a420e989eb15adc428b4ad82a1d4bd393e058c2c636265c8713f70"), looks := false }, kinds := [], alts := [], laidByText := true, laidKinds := [.data, .data, .data, .listed, .data], laidTests := true, laidLooks := .later }
def FnExactInstrTextUptoCardSaid : Prop := Claim7.holds Tryd.pinned (.plain (OpenSpec.upto fnExactInstrTextSpec)) fnExactInstrTextUptoCard
end Rows
end Go.Proofs.YtjgdfbcjlebniaaDoor
