/-
  No cell of these rows narrows 'for every input' (looked for: loops, veiled, ifaces, maps, wideKeys, modest, calm, conditions, laid).
  DERIVED. THE GIVEN ROWS OF THIS SEAT. 9 by the template 'for every input the law returns true; each argument reads behind the call as it read before'; 0 by the template 'total and deterministic' (their statements: YtkegjmkdnfpfdaaTotals.lean).
  GIVEN WITH THE SEED: the statements are not yours to turn. If you find one false, say at which input.
  Laid BY PROGRAM, IN A SANDBOX (cutbox-rows.mjs): the forced cells as the released guide's own fill.sh prints them over the translation ad11bab1de5adf2e… (all of the seat's roots in one cut). By AI agents, Wed Nov 11 2026. No macro, syntax, notation, axiom, sorry.
-/
import Derived.Test.YtkegjmkdnfpfdaaChecked
import GoSem.Claim
import GoSem.ClaimJoined
import GoSem.ClaimMapViews
import Derived.JoinedTies
import Derived.KernelRfl
namespace Go.Proofs.Ytkegjmkdnfpfdaa
/- THE CELL 'sum', in the pinned program and in every row, IS THE sha256 OF THE DUMP (.gsa) THAT YtkegjmkdnfpfdaaProg.lean LOADS. Nothing in Lean hashes anything: it is a label: what it is worth is what the hold of that sum in a sandbox is worth. -/
noncomputable def Try.pinned : Pinned := { name := "ytkegjmkdnfpfdaa", sum := "ad11bab1de5adf2e326f68d89b91caf4977311292337a4f792404389be7afcd3", checked := Try.checked }
namespace Rows
def none {H : Type} : Left H := { results := [], args := [] }

/-- 'laws.FnExactFlatOf': WHATEVER THE INPUT: true; the input reads as it did. -/
def fnExactFlatOfSpec : ChangeSpec := { name := "fnExactFlatOf", fn := fun _ => fun
  | [d1, d2, d3] => { results := [.lit (.bool true)], args := [d1, d2, d3] }
  | _ => none }
def fnExactFlatOfRow : OpenClaim := { program := "ytkegjmkdnfpfdaa", sum := "ad11bab1de5adf2e326f68d89b91caf4977311292337a4f792404389be7afcd3", func := "loop.example/g00684/laws.FnExactFlatOf", spec := "fnExactFlatOf", unfollowed := true, recurses := true, apart := false }
def FnExactFlatOfSaid : Prop := fnExactFlatOfRow.holds Try.pinned (OpenSpec.ofChange fnExactFlatOfSpec)

/-- ITS FALSE NEIGHBOUR: 'it returns false'. Refute it at one input. -/
def fnExactFlatOfWrong : ChangeSpec := { name := "fnExactFlatOf", fn := fun _ => fun
  | [d1, d2, d3] => { results := [.lit (.bool false)], args := [d1, d2, d3] }
  | _ => none }
def FnExactFlatOfWrongFalsely : Prop := fnExactFlatOfRow.holds Try.pinned (OpenSpec.ofChange fnExactFlatOfWrong)

/-- 'laws.FnExactCallsOf': WHATEVER THE INPUT: true; the input reads as it did. -/
def fnExactCallsOfSpec : ChangeSpec := { name := "fnExactCallsOf", fn := fun _ => fun
  | [d] => { results := [.lit (.bool true)], args := [d] }
  | _ => none }
def fnExactCallsOfRow : OpenClaim := { program := "ytkegjmkdnfpfdaa", sum := "ad11bab1de5adf2e326f68d89b91caf4977311292337a4f792404389be7afcd3", func := "loop.example/g00684/laws.FnExactCallsOf", spec := "fnExactCallsOf", unfollowed := true, recurses := true, apart := false }
def FnExactCallsOfSaid : Prop := fnExactCallsOfRow.holds Try.pinned (OpenSpec.ofChange fnExactCallsOfSpec)

/-- ITS FALSE NEIGHBOUR: 'it returns false'. Refute it at one input. -/
def fnExactCallsOfWrong : ChangeSpec := { name := "fnExactCallsOf", fn := fun _ => fun
  | [d] => { results := [.lit (.bool false)], args := [d] }
  | _ => none }
def FnExactCallsOfWrongFalsely : Prop := fnExactCallsOfRow.holds Try.pinned (OpenSpec.ofChange fnExactCallsOfWrong)

/-- 'laws.FnExactNewCore': WHATEVER THE INPUT: true; the input reads as it did. -/
def fnExactNewCoreSpec : ChangeSpec := { name := "fnExactNewCore", fn := fun _ => fun
  | [d1, d2, d3] => { results := [.lit (.bool true)], args := [d1, d2, d3] }
  | _ => none }
def fnExactNewCoreRow : OpenClaim := { program := "ytkegjmkdnfpfdaa", sum := "ad11bab1de5adf2e326f68d89b91caf4977311292337a4f792404389be7afcd3", func := "loop.example/g00684/laws.FnExactNewCore", spec := "fnExactNewCore", unfollowed := true, recurses := true, apart := false }
def FnExactNewCoreSaid : Prop := fnExactNewCoreRow.holds Try.pinned (OpenSpec.ofChange fnExactNewCoreSpec)

/-- ITS FALSE NEIGHBOUR: 'it returns false'. Refute it at one input. -/
def fnExactNewCoreWrong : ChangeSpec := { name := "fnExactNewCore", fn := fun _ => fun
  | [d1, d2, d3] => { results := [.lit (.bool false)], args := [d1, d2, d3] }
  | _ => none }
def FnExactNewCoreWrongFalsely : Prop := fnExactNewCoreRow.holds Try.pinned (OpenSpec.ofChange fnExactNewCoreWrong)

/-- 'laws.FnExactCheckProgram': WHATEVER THE INPUT: true; the input reads as it did. -/
def fnExactCheckProgramSpec : ChangeSpec := { name := "fnExactCheckProgram", fn := fun _ => fun
  | [d] => { results := [.lit (.bool true)], args := [d] }
  | _ => none }
def fnExactCheckProgramRow : OpenClaim := { program := "ytkegjmkdnfpfdaa", sum := "ad11bab1de5adf2e326f68d89b91caf4977311292337a4f792404389be7afcd3", func := "loop.example/g00684/laws.FnExactCheckProgram", spec := "fnExactCheckProgram", unfollowed := true, recurses := true, apart := false }
def FnExactCheckProgramSaid : Prop := fnExactCheckProgramRow.holds Try.pinned (OpenSpec.ofChange fnExactCheckProgramSpec)

/-- ITS FALSE NEIGHBOUR: 'it returns false'. Refute it at one input. -/
def fnExactCheckProgramWrong : ChangeSpec := { name := "fnExactCheckProgram", fn := fun _ => fun
  | [d] => { results := [.lit (.bool false)], args := [d] }
  | _ => none }
def FnExactCheckProgramWrongFalsely : Prop := fnExactCheckProgramRow.holds Try.pinned (OpenSpec.ofChange fnExactCheckProgramWrong)

/-- 'laws.FnExactSameProgram': WHATEVER THE INPUT: true; the input reads as it did. -/
def fnExactSameProgramSpec : ChangeSpec := { name := "fnExactSameProgram", fn := fun _ => fun
  | [d1, d2] => { results := [.lit (.bool true)], args := [d1, d2] }
  | _ => none }
def fnExactSameProgramRow : OpenClaim := { program := "ytkegjmkdnfpfdaa", sum := "ad11bab1de5adf2e326f68d89b91caf4977311292337a4f792404389be7afcd3", func := "loop.example/g00684/laws.FnExactSameProgram", spec := "fnExactSameProgram", unfollowed := true, recurses := true, apart := false }
def FnExactSameProgramSaid : Prop := fnExactSameProgramRow.holds Try.pinned (OpenSpec.ofChange fnExactSameProgramSpec)

/-- ITS FALSE NEIGHBOUR: 'it returns false'. Refute it at one input. -/
def fnExactSameProgramWrong : ChangeSpec := { name := "fnExactSameProgram", fn := fun _ => fun
  | [d1, d2] => { results := [.lit (.bool false)], args := [d1, d2] }
  | _ => none }
def FnExactSameProgramWrongFalsely : Prop := fnExactSameProgramRow.holds Try.pinned (OpenSpec.ofChange fnExactSameProgramWrong)

/-- 'laws.FnExactCostsOf': WHATEVER THE INPUT: true; the input reads as it did. -/
def fnExactCostsOfSpec : ChangeSpec := { name := "fnExactCostsOf", fn := fun _ => fun
  | [d1, d2] => { results := [.lit (.bool true)], args := [d1, d2] }
  | _ => none }
def fnExactCostsOfRow : OpenClaim := { program := "ytkegjmkdnfpfdaa", sum := "ad11bab1de5adf2e326f68d89b91caf4977311292337a4f792404389be7afcd3", func := "loop.example/g00684/laws.FnExactCostsOf", spec := "fnExactCostsOf", unfollowed := true, recurses := true, apart := false }
def FnExactCostsOfSaid : Prop := fnExactCostsOfRow.holds Try.pinned (OpenSpec.ofChange fnExactCostsOfSpec)

/-- ITS FALSE NEIGHBOUR: 'it returns false'. Refute it at one input. -/
def fnExactCostsOfWrong : ChangeSpec := { name := "fnExactCostsOf", fn := fun _ => fun
  | [d1, d2] => { results := [.lit (.bool false)], args := [d1, d2] }
  | _ => none }
def FnExactCostsOfWrongFalsely : Prop := fnExactCostsOfRow.holds Try.pinned (OpenSpec.ofChange fnExactCostsOfWrong)

/-- 'laws.FnExactCoreOK': WHATEVER THE INPUT: true; the input reads as it did. -/
def fnExactCoreOKSpec : ChangeSpec := { name := "fnExactCoreOK", fn := fun _ => fun
  | [d1, d2, d3] => { results := [.lit (.bool true)], args := [d1, d2, d3] }
  | _ => none }
def fnExactCoreOKRow : OpenClaim := { program := "ytkegjmkdnfpfdaa", sum := "ad11bab1de5adf2e326f68d89b91caf4977311292337a4f792404389be7afcd3", func := "loop.example/g00684/laws.FnExactCoreOK", spec := "fnExactCoreOK", unfollowed := true, recurses := true, apart := false }
def FnExactCoreOKSaid : Prop := fnExactCoreOKRow.holds Try.pinned (OpenSpec.ofChange fnExactCoreOKSpec)

/-- ITS FALSE NEIGHBOUR: 'it returns false'. Refute it at one input. -/
def fnExactCoreOKWrong : ChangeSpec := { name := "fnExactCoreOK", fn := fun _ => fun
  | [d1, d2, d3] => { results := [.lit (.bool false)], args := [d1, d2, d3] }
  | _ => none }
def FnExactCoreOKWrongFalsely : Prop := fnExactCoreOKRow.holds Try.pinned (OpenSpec.ofChange fnExactCoreOKWrong)

/-- 'laws.FnExactImageText': WHATEVER THE INPUT: true; the input reads as it did. -/
def fnExactImageTextSpec : ChangeSpec := { name := "fnExactImageText", fn := fun _ => fun
  | [d] => { results := [.lit (.bool true)], args := [d] }
  | _ => none }
def fnExactImageTextRow : OpenClaim := { program := "ytkegjmkdnfpfdaa", sum := "ad11bab1de5adf2e326f68d89b91caf4977311292337a4f792404389be7afcd3", func := "loop.example/g00684/laws.FnExactImageText", spec := "fnExactImageText", inPlace := ["internal/abi.NoEscape"], unfollowed := true, recurses := true, apart := false }
def FnExactImageTextSaid : Prop := fnExactImageTextRow.holds Try.pinned (OpenSpec.ofChange fnExactImageTextSpec)

/-- ITS FALSE NEIGHBOUR: 'it returns false'. Refute it at one input. -/
def fnExactImageTextWrong : ChangeSpec := { name := "fnExactImageText", fn := fun _ => fun
  | [d] => { results := [.lit (.bool false)], args := [d] }
  | _ => none }
def FnExactImageTextWrongFalsely : Prop := fnExactImageTextRow.holds Try.pinned (OpenSpec.ofChange fnExactImageTextWrong)

/-- 'laws.FnExactApplyOp': WHATEVER THE INPUT: true; the input reads as it did. -/
def fnExactApplyOpSpec : ChangeSpec := { name := "fnExactApplyOp", fn := fun _ => fun
  | [d1, d2, d3, d4] => { results := [.lit (.bool true)], args := [d1, d2, d3, d4] }
  | _ => none }
def fnExactApplyOpRow : OpenClaim := { program := "ytkegjmkdnfpfdaa", sum := "ad11bab1de5adf2e326f68d89b91caf4977311292337a4f792404389be7afcd3", func := "loop.example/g00684/laws.FnExactApplyOp", spec := "fnExactApplyOp", unfollowed := true, recurses := true, apart := false }
def FnExactApplyOpSaid : Prop := fnExactApplyOpRow.holds Try.pinned (OpenSpec.ofChange fnExactApplyOpSpec)

/-- ITS FALSE NEIGHBOUR: 'it returns false'. Refute it at one input. -/
def fnExactApplyOpWrong : ChangeSpec := { name := "fnExactApplyOp", fn := fun _ => fun
  | [d1, d2, d3, d4] => { results := [.lit (.bool false)], args := [d1, d2, d3, d4] }
  | _ => none }
def FnExactApplyOpWrongFalsely : Prop := fnExactApplyOpRow.holds Try.pinned (OpenSpec.ofChange fnExactApplyOpWrong)

/- THE SECOND FORM. 'bulk': how many values and letters a reading holds, each counted each time it is reached (what is shared counts as often as it is met; a slice's spare places count too). A statement '..UptoSaid' is the law's where the arguments, and the package variables that the reading takes, are together of bulk at most 1048576: NARROWER than '..Said'. Prove '..Said' where nothing that the law and all that it calls make is longer than what came in: it says more and counts as full. Else prove '..UptoSaid'. A law counts once. -/
mutual
def uptoBulk {H : Type} : DataW H → Nat
  | .lit (.string bytes) => bytes.length + 1
  | .lit _ => 1
  | .nil => 1
  | .ptr d => uptoBulk d + 1
  | .slice elems spare => uptoBulkAll elems + uptoBulkAll spare + 1
  | .agg parts => uptoBulkAll parts + 1
  | .iface _ d => uptoBulk d + 1
  | .map entries => uptoBulkEntries entries + 1
  | .held _ => 1
def uptoBulkAll {H : Type} : List (DataW H) → Nat
  | [] => 0
  | d :: r => uptoBulk d + uptoBulkAll r
def uptoBulkEntries {H : Type} : List (Lit × DataW H) → Nat
  | [] => 0
  | x :: r => uptoBulkEntry x + uptoBulkEntries r
def uptoBulkEntry {H : Type} : Lit × DataW H → Nat
  | (.string bytes, d) => bytes.length + uptoBulk d + 1
  | (_, d) => uptoBulk d + 1
 end
def uptoSmall : (H : Type) → List (DataW H) → Bool := fun _ ds => decide (uptoBulkAll ds ≤ 1048576)
def OpenSpec.upto (s : _root_.Go.ChangeSpec) : _root_.Go.OpenSpec := { _root_.Go.OpenSpec.ofChange s with cond := some uptoSmall }

/-- 'laws.FnExactFlatOf', WHERE WHAT IT READS IS OF BULK AT MOST 1048576: true; the input reads as it did. -/
def fnExactFlatOfUptoRow : OpenClaim := { program := "ytkegjmkdnfpfdaa", sum := "ad11bab1de5adf2e326f68d89b91caf4977311292337a4f792404389be7afcd3", func := "loop.example/g00684/laws.FnExactFlatOf", spec := "fnExactFlatOf", unfollowed := true, recurses := true, apart := false, narrowed := true }
def FnExactFlatOfUptoSaid : Prop := fnExactFlatOfUptoRow.holds Try.pinned (OpenSpec.upto fnExactFlatOfSpec)

/-- 'laws.FnExactCallsOf', WHERE WHAT IT READS IS OF BULK AT MOST 1048576: true; the input reads as it did. -/
def fnExactCallsOfUptoRow : OpenClaim := { program := "ytkegjmkdnfpfdaa", sum := "ad11bab1de5adf2e326f68d89b91caf4977311292337a4f792404389be7afcd3", func := "loop.example/g00684/laws.FnExactCallsOf", spec := "fnExactCallsOf", unfollowed := true, recurses := true, apart := false, narrowed := true }
def FnExactCallsOfUptoSaid : Prop := fnExactCallsOfUptoRow.holds Try.pinned (OpenSpec.upto fnExactCallsOfSpec)

/-- 'laws.FnExactNewCore', WHERE WHAT IT READS IS OF BULK AT MOST 1048576: true; the input reads as it did. -/
def fnExactNewCoreUptoRow : OpenClaim := { program := "ytkegjmkdnfpfdaa", sum := "ad11bab1de5adf2e326f68d89b91caf4977311292337a4f792404389be7afcd3", func := "loop.example/g00684/laws.FnExactNewCore", spec := "fnExactNewCore", unfollowed := true, recurses := true, apart := false, narrowed := true }
def FnExactNewCoreUptoSaid : Prop := fnExactNewCoreUptoRow.holds Try.pinned (OpenSpec.upto fnExactNewCoreSpec)

/-- 'laws.FnExactCheckProgram', WHERE WHAT IT READS IS OF BULK AT MOST 1048576: true; the input reads as it did. -/
def fnExactCheckProgramUptoRow : OpenClaim := { program := "ytkegjmkdnfpfdaa", sum := "ad11bab1de5adf2e326f68d89b91caf4977311292337a4f792404389be7afcd3", func := "loop.example/g00684/laws.FnExactCheckProgram", spec := "fnExactCheckProgram", unfollowed := true, recurses := true, apart := false, narrowed := true }
def FnExactCheckProgramUptoSaid : Prop := fnExactCheckProgramUptoRow.holds Try.pinned (OpenSpec.upto fnExactCheckProgramSpec)

/-- 'laws.FnExactSameProgram', WHERE WHAT IT READS IS OF BULK AT MOST 1048576: true; the input reads as it did. -/
def fnExactSameProgramUptoRow : OpenClaim := { program := "ytkegjmkdnfpfdaa", sum := "ad11bab1de5adf2e326f68d89b91caf4977311292337a4f792404389be7afcd3", func := "loop.example/g00684/laws.FnExactSameProgram", spec := "fnExactSameProgram", unfollowed := true, recurses := true, apart := false, narrowed := true }
def FnExactSameProgramUptoSaid : Prop := fnExactSameProgramUptoRow.holds Try.pinned (OpenSpec.upto fnExactSameProgramSpec)

/-- 'laws.FnExactCostsOf', WHERE WHAT IT READS IS OF BULK AT MOST 1048576: true; the input reads as it did. -/
def fnExactCostsOfUptoRow : OpenClaim := { program := "ytkegjmkdnfpfdaa", sum := "ad11bab1de5adf2e326f68d89b91caf4977311292337a4f792404389be7afcd3", func := "loop.example/g00684/laws.FnExactCostsOf", spec := "fnExactCostsOf", unfollowed := true, recurses := true, apart := false, narrowed := true }
def FnExactCostsOfUptoSaid : Prop := fnExactCostsOfUptoRow.holds Try.pinned (OpenSpec.upto fnExactCostsOfSpec)

/-- 'laws.FnExactCoreOK', WHERE WHAT IT READS IS OF BULK AT MOST 1048576: true; the input reads as it did. -/
def fnExactCoreOKUptoRow : OpenClaim := { program := "ytkegjmkdnfpfdaa", sum := "ad11bab1de5adf2e326f68d89b91caf4977311292337a4f792404389be7afcd3", func := "loop.example/g00684/laws.FnExactCoreOK", spec := "fnExactCoreOK", unfollowed := true, recurses := true, apart := false, narrowed := true }
def FnExactCoreOKUptoSaid : Prop := fnExactCoreOKUptoRow.holds Try.pinned (OpenSpec.upto fnExactCoreOKSpec)

/-- 'laws.FnExactImageText', WHERE WHAT IT READS IS OF BULK AT MOST 1048576: true; the input reads as it did. -/
def fnExactImageTextUptoRow : OpenClaim := { program := "ytkegjmkdnfpfdaa", sum := "ad11bab1de5adf2e326f68d89b91caf4977311292337a4f792404389be7afcd3", func := "loop.example/g00684/laws.FnExactImageText", spec := "fnExactImageText", inPlace := ["internal/abi.NoEscape"], unfollowed := true, recurses := true, apart := false, narrowed := true }
def FnExactImageTextUptoSaid : Prop := fnExactImageTextUptoRow.holds Try.pinned (OpenSpec.upto fnExactImageTextSpec)

/-- 'laws.FnExactApplyOp', WHERE WHAT IT READS IS OF BULK AT MOST 1048576: true; the input reads as it did. -/
def fnExactApplyOpUptoRow : OpenClaim := { program := "ytkegjmkdnfpfdaa", sum := "ad11bab1de5adf2e326f68d89b91caf4977311292337a4f792404389be7afcd3", func := "loop.example/g00684/laws.FnExactApplyOp", spec := "fnExactApplyOp", unfollowed := true, recurses := true, apart := false, narrowed := true }
def FnExactApplyOpUptoSaid : Prop := fnExactApplyOpUptoRow.holds Try.pinned (OpenSpec.upto fnExactApplyOpSpec)

end Rows
end Go.Proofs.Ytkegjmkdnfpfdaa
