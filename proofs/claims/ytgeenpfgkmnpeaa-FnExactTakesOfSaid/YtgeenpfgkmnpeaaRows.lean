/-
  No cell of these rows narrows 'for every input' (looked for: loops, veiled, ifaces, maps, wideKeys, modest, calm, conditions, laid).
  DERIVED. THE GIVEN ROWS OF THIS SEAT. 12 by the template 'for every input the law returns true; each argument reads behind the call as it read before'; 0 by the template 'total and deterministic' (their statements: YtgeenpfgkmnpeaaTotals.lean).
  GIVEN WITH THE SEED: the statements are not yours to turn. If you find one false, say at which input.
  Laid BY PROGRAM, IN A SANDBOX (cutbox-rows.mjs): the forced cells as the released guide's own fill.sh prints them over the translation 50cca5dd8ded95aa… (all of the seat's roots in one cut). By AI agents, Wed Nov 11 2026. No macro, syntax, notation, axiom, sorry.
-/
import Derived.Test.YtgeenpfgkmnpeaaChecked
import GoSem.Claim
import GoSem.ClaimJoined
import GoSem.ClaimMapViews
import Derived.JoinedTies
import Derived.KernelRfl
namespace Go.Proofs.Ytgeenpfgkmnpeaa
/- THE CELL 'sum', in the pinned program and in every row, IS THE sha256 OF THE DUMP (.gsa) THAT YtgeenpfgkmnpeaaProg.lean LOADS. Nothing in Lean hashes anything: it is a label: what it is worth is what the hold of that sum in a sandbox is worth. -/
noncomputable def Try.pinned : Pinned := { name := "ytgeenpfgkmnpeaa", sum := "50cca5dd8ded95aae0767b291795d9eb6806fef51b891de22c25c43992f3f892", checked := Try.checked }
namespace Rows
def none {H : Type} : Left H := { results := [], args := [] }

/-- 'laws.FnExactConstants': WHATEVER THE INPUT: true; the input reads as it did. -/
def fnExactConstantsSpec : ChangeSpec := { name := "fnExactConstants", fn := fun _ => fun
  | [] => { results := [.lit (.bool true)], args := [] }
  | _ => none }
def fnExactConstantsRow : OpenClaim := { program := "ytgeenpfgkmnpeaa", sum := "50cca5dd8ded95aae0767b291795d9eb6806fef51b891de22c25c43992f3f892", func := "loop.example/g00684/laws.FnExactConstants", spec := "fnExactConstants", apart := false }
def FnExactConstantsSaid : Prop := fnExactConstantsRow.holds Try.pinned (OpenSpec.ofChange fnExactConstantsSpec)

/-- ITS FALSE NEIGHBOUR: 'it returns false'. Refute it at one input. -/
def fnExactConstantsWrong : ChangeSpec := { name := "fnExactConstants", fn := fun _ => fun
  | [] => { results := [.lit (.bool false)], args := [] }
  | _ => none }
def FnExactConstantsWrongFalsely : Prop := fnExactConstantsRow.holds Try.pinned (OpenSpec.ofChange fnExactConstantsWrong)

/-- 'laws.FnExactTakesOf': WHATEVER THE INPUT: true; the input reads as it did. -/
def fnExactTakesOfSpec : ChangeSpec := { name := "fnExactTakesOf", fn := fun _ => fun
  | [d] => { results := [.lit (.bool true)], args := [d] }
  | _ => none }
def fnExactTakesOfRow : OpenClaim := { program := "ytgeenpfgkmnpeaa", sum := "50cca5dd8ded95aae0767b291795d9eb6806fef51b891de22c25c43992f3f892", func := "loop.example/g00684/laws.FnExactTakesOf", spec := "fnExactTakesOf", apart := false }
def FnExactTakesOfSaid : Prop := fnExactTakesOfRow.holds Try.pinned (OpenSpec.ofChange fnExactTakesOfSpec)

/-- ITS FALSE NEIGHBOUR: 'it returns false'. Refute it at one input. -/
def fnExactTakesOfWrong : ChangeSpec := { name := "fnExactTakesOf", fn := fun _ => fun
  | [d] => { results := [.lit (.bool false)], args := [d] }
  | _ => none }
def FnExactTakesOfWrongFalsely : Prop := fnExactTakesOfRow.holds Try.pinned (OpenSpec.ofChange fnExactTakesOfWrong)

/-- 'laws.FnExactHexOf': WHATEVER THE INPUT: true; the input reads as it did. -/
def fnExactHexOfSpec : ChangeSpec := { name := "fnExactHexOf", fn := fun _ => fun
  | [d] => { results := [.lit (.bool true)], args := [d] }
  | _ => none }
def fnExactHexOfRow : OpenClaim := { program := "ytgeenpfgkmnpeaa", sum := "50cca5dd8ded95aae0767b291795d9eb6806fef51b891de22c25c43992f3f892", func := "loop.example/g00684/laws.FnExactHexOf", spec := "fnExactHexOf", apart := false }
def FnExactHexOfSaid : Prop := fnExactHexOfRow.holds Try.pinned (OpenSpec.ofChange fnExactHexOfSpec)

/-- ITS FALSE NEIGHBOUR: 'it returns false'. Refute it at one input. -/
def fnExactHexOfWrong : ChangeSpec := { name := "fnExactHexOf", fn := fun _ => fun
  | [d] => { results := [.lit (.bool false)], args := [d] }
  | _ => none }
def FnExactHexOfWrongFalsely : Prop := fnExactHexOfRow.holds Try.pinned (OpenSpec.ofChange fnExactHexOfWrong)

/-- 'laws.FnExactSumOf': WHATEVER THE INPUT: true; the input reads as it did. -/
def fnExactSumOfSpec : ChangeSpec := { name := "fnExactSumOf", fn := fun _ => fun
  | [d] => { results := [.lit (.bool true)], args := [d] }
  | _ => none }
def fnExactSumOfRow : OpenClaim := { program := "ytgeenpfgkmnpeaa", sum := "50cca5dd8ded95aae0767b291795d9eb6806fef51b891de22c25c43992f3f892", func := "loop.example/g00684/laws.FnExactSumOf", spec := "fnExactSumOf", apart := false }
def FnExactSumOfSaid : Prop := fnExactSumOfRow.holds Try.pinned (OpenSpec.ofChange fnExactSumOfSpec)

/-- ITS FALSE NEIGHBOUR: 'it returns false'. Refute it at one input. -/
def fnExactSumOfWrong : ChangeSpec := { name := "fnExactSumOf", fn := fun _ => fun
  | [d] => { results := [.lit (.bool false)], args := [d] }
  | _ => none }
def FnExactSumOfWrongFalsely : Prop := fnExactSumOfRow.holds Try.pinned (OpenSpec.ofChange fnExactSumOfWrong)

/-- 'laws.FnExactNameOK': WHATEVER THE INPUT: true; the input reads as it did. -/
def fnExactNameOKSpec : ChangeSpec := { name := "fnExactNameOK", fn := fun _ => fun
  | [d] => { results := [.lit (.bool true)], args := [d] }
  | _ => none }
def fnExactNameOKRow : OpenClaim := { program := "ytgeenpfgkmnpeaa", sum := "50cca5dd8ded95aae0767b291795d9eb6806fef51b891de22c25c43992f3f892", func := "loop.example/g00684/laws.FnExactNameOK", spec := "fnExactNameOK", apart := false }
def FnExactNameOKSaid : Prop := fnExactNameOKRow.holds Try.pinned (OpenSpec.ofChange fnExactNameOKSpec)

/-- ITS FALSE NEIGHBOUR: 'it returns false'. Refute it at one input. -/
def fnExactNameOKWrong : ChangeSpec := { name := "fnExactNameOK", fn := fun _ => fun
  | [d] => { results := [.lit (.bool false)], args := [d] }
  | _ => none }
def FnExactNameOKWrongFalsely : Prop := fnExactNameOKRow.holds Try.pinned (OpenSpec.ofChange fnExactNameOKWrong)

/-- 'laws.FnExactNewFb': WHATEVER THE INPUT: true; the input reads as it did. -/
def fnExactNewFbSpec : ChangeSpec := { name := "fnExactNewFb", fn := fun _ => fun
  | [d] => { results := [.lit (.bool true)], args := [d] }
  | _ => none }
def fnExactNewFbRow : OpenClaim := { program := "ytgeenpfgkmnpeaa", sum := "50cca5dd8ded95aae0767b291795d9eb6806fef51b891de22c25c43992f3f892", func := "loop.example/g00684/laws.FnExactNewFb", spec := "fnExactNewFb", apart := false }
def FnExactNewFbSaid : Prop := fnExactNewFbRow.holds Try.pinned (OpenSpec.ofChange fnExactNewFbSpec)

/-- ITS FALSE NEIGHBOUR: 'it returns false'. Refute it at one input. -/
def fnExactNewFbWrong : ChangeSpec := { name := "fnExactNewFb", fn := fun _ => fun
  | [d] => { results := [.lit (.bool false)], args := [d] }
  | _ => none }
def FnExactNewFbWrongFalsely : Prop := fnExactNewFbRow.holds Try.pinned (OpenSpec.ofChange fnExactNewFbWrong)

/-- 'laws.FnExactTaskOK': WHATEVER THE INPUT: true; the input reads as it did. -/
def fnExactTaskOKSpec : ChangeSpec := { name := "fnExactTaskOK", fn := fun _ => fun
  | [d] => { results := [.lit (.bool true)], args := [d] }
  | _ => none }
def fnExactTaskOKRow : OpenClaim := { program := "ytgeenpfgkmnpeaa", sum := "50cca5dd8ded95aae0767b291795d9eb6806fef51b891de22c25c43992f3f892", func := "loop.example/g00684/laws.FnExactTaskOK", spec := "fnExactTaskOK", apart := false }
def FnExactTaskOKSaid : Prop := fnExactTaskOKRow.holds Try.pinned (OpenSpec.ofChange fnExactTaskOKSpec)

/-- ITS FALSE NEIGHBOUR: 'it returns false'. Refute it at one input. -/
def fnExactTaskOKWrong : ChangeSpec := { name := "fnExactTaskOK", fn := fun _ => fun
  | [d] => { results := [.lit (.bool false)], args := [d] }
  | _ => none }
def FnExactTaskOKWrongFalsely : Prop := fnExactTaskOKRow.holds Try.pinned (OpenSpec.ofChange fnExactTaskOKWrong)

/-- 'laws.FnExactFbOK': WHATEVER THE INPUT: true; the input reads as it did. -/
def fnExactFbOKSpec : ChangeSpec := { name := "fnExactFbOK", fn := fun _ => fun
  | [d] => { results := [.lit (.bool true)], args := [d] }
  | _ => none }
def fnExactFbOKRow : OpenClaim := { program := "ytgeenpfgkmnpeaa", sum := "50cca5dd8ded95aae0767b291795d9eb6806fef51b891de22c25c43992f3f892", func := "loop.example/g00684/laws.FnExactFbOK", spec := "fnExactFbOK", apart := false }
def FnExactFbOKSaid : Prop := fnExactFbOKRow.holds Try.pinned (OpenSpec.ofChange fnExactFbOKSpec)

/-- ITS FALSE NEIGHBOUR: 'it returns false'. Refute it at one input. -/
def fnExactFbOKWrong : ChangeSpec := { name := "fnExactFbOK", fn := fun _ => fun
  | [d] => { results := [.lit (.bool false)], args := [d] }
  | _ => none }
def FnExactFbOKWrongFalsely : Prop := fnExactFbOKRow.holds Try.pinned (OpenSpec.ofChange fnExactFbOKWrong)

/-- 'laws.FnExactSummaryOK': WHATEVER THE INPUT: true; the input reads as it did. -/
def fnExactSummaryOKSpec : ChangeSpec := { name := "fnExactSummaryOK", fn := fun _ => fun
  | [d] => { results := [.lit (.bool true)], args := [d] }
  | _ => none }
def fnExactSummaryOKRow : OpenClaim := { program := "ytgeenpfgkmnpeaa", sum := "50cca5dd8ded95aae0767b291795d9eb6806fef51b891de22c25c43992f3f892", func := "loop.example/g00684/laws.FnExactSummaryOK", spec := "fnExactSummaryOK", apart := false }
def FnExactSummaryOKSaid : Prop := fnExactSummaryOKRow.holds Try.pinned (OpenSpec.ofChange fnExactSummaryOKSpec)

/-- ITS FALSE NEIGHBOUR: 'it returns false'. Refute it at one input. -/
def fnExactSummaryOKWrong : ChangeSpec := { name := "fnExactSummaryOK", fn := fun _ => fun
  | [d] => { results := [.lit (.bool false)], args := [d] }
  | _ => none }
def FnExactSummaryOKWrongFalsely : Prop := fnExactSummaryOKRow.holds Try.pinned (OpenSpec.ofChange fnExactSummaryOKWrong)

/-- 'laws.FnExactCostOf': WHATEVER THE INPUT: true; the input reads as it did. -/
def fnExactCostOfSpec : ChangeSpec := { name := "fnExactCostOf", fn := fun _ => fun
  | [d] => { results := [.lit (.bool true)], args := [d] }
  | _ => none }
def fnExactCostOfRow : OpenClaim := { program := "ytgeenpfgkmnpeaa", sum := "50cca5dd8ded95aae0767b291795d9eb6806fef51b891de22c25c43992f3f892", func := "loop.example/g00684/laws.FnExactCostOf", spec := "fnExactCostOf", apart := false }
def FnExactCostOfSaid : Prop := fnExactCostOfRow.holds Try.pinned (OpenSpec.ofChange fnExactCostOfSpec)

/-- ITS FALSE NEIGHBOUR: 'it returns false'. Refute it at one input. -/
def fnExactCostOfWrong : ChangeSpec := { name := "fnExactCostOf", fn := fun _ => fun
  | [d] => { results := [.lit (.bool false)], args := [d] }
  | _ => none }
def FnExactCostOfWrongFalsely : Prop := fnExactCostOfRow.holds Try.pinned (OpenSpec.ofChange fnExactCostOfWrong)

/-- 'laws.FnExactPutNumber': WHATEVER THE INPUT: true; the input reads as it did. -/
def fnExactPutNumberSpec : ChangeSpec := { name := "fnExactPutNumber", fn := fun _ => fun
  | [d1, d2] => { results := [.lit (.bool true)], args := [d1, d2] }
  | _ => none }
def fnExactPutNumberRow : OpenClaim := { program := "ytgeenpfgkmnpeaa", sum := "50cca5dd8ded95aae0767b291795d9eb6806fef51b891de22c25c43992f3f892", func := "loop.example/g00684/laws.FnExactPutNumber", spec := "fnExactPutNumber", apart := false }
def FnExactPutNumberSaid : Prop := fnExactPutNumberRow.holds Try.pinned (OpenSpec.ofChange fnExactPutNumberSpec)

/-- ITS FALSE NEIGHBOUR: 'it returns false'. Refute it at one input. -/
def fnExactPutNumberWrong : ChangeSpec := { name := "fnExactPutNumber", fn := fun _ => fun
  | [d1, d2] => { results := [.lit (.bool false)], args := [d1, d2] }
  | _ => none }
def FnExactPutNumberWrongFalsely : Prop := fnExactPutNumberRow.holds Try.pinned (OpenSpec.ofChange fnExactPutNumberWrong)

/-- 'laws.FnExactOneCost': WHATEVER THE INPUT: true; the input reads as it did. -/
def fnExactOneCostSpec : ChangeSpec := { name := "fnExactOneCost", fn := fun _ => fun
  | [d1, d2] => { results := [.lit (.bool true)], args := [d1, d2] }
  | _ => none }
def fnExactOneCostRow : OpenClaim := { program := "ytgeenpfgkmnpeaa", sum := "50cca5dd8ded95aae0767b291795d9eb6806fef51b891de22c25c43992f3f892", func := "loop.example/g00684/laws.FnExactOneCost", spec := "fnExactOneCost", apart := false }
def FnExactOneCostSaid : Prop := fnExactOneCostRow.holds Try.pinned (OpenSpec.ofChange fnExactOneCostSpec)

/-- ITS FALSE NEIGHBOUR: 'it returns false'. Refute it at one input. -/
def fnExactOneCostWrong : ChangeSpec := { name := "fnExactOneCost", fn := fun _ => fun
  | [d1, d2] => { results := [.lit (.bool false)], args := [d1, d2] }
  | _ => none }
def FnExactOneCostWrongFalsely : Prop := fnExactOneCostRow.holds Try.pinned (OpenSpec.ofChange fnExactOneCostWrong)

/- THE SECOND FORM. 'bulk': how many values and letters a reading holds, each counted each time it is reached (what is shared counts as often as it is met; a slice's spare places count too). A statement '..UptoSaid' is the law's where the arguments, and the package variables that the reading takes, are together of bulk at most 1048576: NARROWER than '..Said'. Prove '..Said' where nothing that the law and all that it calls make is longer than what came in: it says more and counts as full. Else prove '..UptoSaid'. A law counts once. -/
mutual
def uptoBulk {H : Type} : DataW H → Nat
  | .lit (.string bytes) => bytes.length + 1
  | .lit _ => 1
  | .nil => 1
  | .ptr d => uptoBulk d + 1
  | .slice elems spare => uptoBulkAll elems + uptoBulkAll spare + 1
  | .agg parts => uptoBulkAll parts + 1
  | .iface _ d => uptoBulk d + 1
  | .map entries => uptoBulkEntries entries + 1
  | .held _ => 1
def uptoBulkAll {H : Type} : List (DataW H) → Nat
  | [] => 0
  | d :: r => uptoBulk d + uptoBulkAll r
def uptoBulkEntries {H : Type} : List (Lit × DataW H) → Nat
  | [] => 0
  | x :: r => uptoBulkEntry x + uptoBulkEntries r
def uptoBulkEntry {H : Type} : Lit × DataW H → Nat
  | (.string bytes, d) => bytes.length + uptoBulk d + 1
  | (_, d) => uptoBulk d + 1
 end
def uptoSmall : (H : Type) → List (DataW H) → Bool := fun _ ds => decide (uptoBulkAll ds ≤ 1048576)
def OpenSpec.upto (s : _root_.Go.ChangeSpec) : _root_.Go.OpenSpec := { _root_.Go.OpenSpec.ofChange s with cond := some uptoSmall }

/-- 'laws.FnExactConstants', WHERE WHAT IT READS IS OF BULK AT MOST 1048576: true; the input reads as it did. -/
def fnExactConstantsUptoRow : OpenClaim := { program := "ytgeenpfgkmnpeaa", sum := "50cca5dd8ded95aae0767b291795d9eb6806fef51b891de22c25c43992f3f892", func := "loop.example/g00684/laws.FnExactConstants", spec := "fnExactConstants", apart := false, narrowed := true }
def FnExactConstantsUptoSaid : Prop := fnExactConstantsUptoRow.holds Try.pinned (OpenSpec.upto fnExactConstantsSpec)

/-- 'laws.FnExactTakesOf', WHERE WHAT IT READS IS OF BULK AT MOST 1048576: true; the input reads as it did. -/
def fnExactTakesOfUptoRow : OpenClaim := { program := "ytgeenpfgkmnpeaa", sum := "50cca5dd8ded95aae0767b291795d9eb6806fef51b891de22c25c43992f3f892", func := "loop.example/g00684/laws.FnExactTakesOf", spec := "fnExactTakesOf", apart := false, narrowed := true }
def FnExactTakesOfUptoSaid : Prop := fnExactTakesOfUptoRow.holds Try.pinned (OpenSpec.upto fnExactTakesOfSpec)

/-- 'laws.FnExactHexOf', WHERE WHAT IT READS IS OF BULK AT MOST 1048576: true; the input reads as it did. -/
def fnExactHexOfUptoRow : OpenClaim := { program := "ytgeenpfgkmnpeaa", sum := "50cca5dd8ded95aae0767b291795d9eb6806fef51b891de22c25c43992f3f892", func := "loop.example/g00684/laws.FnExactHexOf", spec := "fnExactHexOf", apart := false, narrowed := true }
def FnExactHexOfUptoSaid : Prop := fnExactHexOfUptoRow.holds Try.pinned (OpenSpec.upto fnExactHexOfSpec)

/-- 'laws.FnExactSumOf', WHERE WHAT IT READS IS OF BULK AT MOST 1048576: true; the input reads as it did. -/
def fnExactSumOfUptoRow : OpenClaim := { program := "ytgeenpfgkmnpeaa", sum := "50cca5dd8ded95aae0767b291795d9eb6806fef51b891de22c25c43992f3f892", func := "loop.example/g00684/laws.FnExactSumOf", spec := "fnExactSumOf", apart := false, narrowed := true }
def FnExactSumOfUptoSaid : Prop := fnExactSumOfUptoRow.holds Try.pinned (OpenSpec.upto fnExactSumOfSpec)

/-- 'laws.FnExactNameOK', WHERE WHAT IT READS IS OF BULK AT MOST 1048576: true; the input reads as it did. -/
def fnExactNameOKUptoRow : OpenClaim := { program := "ytgeenpfgkmnpeaa", sum := "50cca5dd8ded95aae0767b291795d9eb6806fef51b891de22c25c43992f3f892", func := "loop.example/g00684/laws.FnExactNameOK", spec := "fnExactNameOK", apart := false, narrowed := true }
def FnExactNameOKUptoSaid : Prop := fnExactNameOKUptoRow.holds Try.pinned (OpenSpec.upto fnExactNameOKSpec)

/-- 'laws.FnExactNewFb', WHERE WHAT IT READS IS OF BULK AT MOST 1048576: true; the input reads as it did. -/
def fnExactNewFbUptoRow : OpenClaim := { program := "ytgeenpfgkmnpeaa", sum := "50cca5dd8ded95aae0767b291795d9eb6806fef51b891de22c25c43992f3f892", func := "loop.example/g00684/laws.FnExactNewFb", spec := "fnExactNewFb", apart := false, narrowed := true }
def FnExactNewFbUptoSaid : Prop := fnExactNewFbUptoRow.holds Try.pinned (OpenSpec.upto fnExactNewFbSpec)

/-- 'laws.FnExactTaskOK', WHERE WHAT IT READS IS OF BULK AT MOST 1048576: true; the input reads as it did. -/
def fnExactTaskOKUptoRow : OpenClaim := { program := "ytgeenpfgkmnpeaa", sum := "50cca5dd8ded95aae0767b291795d9eb6806fef51b891de22c25c43992f3f892", func := "loop.example/g00684/laws.FnExactTaskOK", spec := "fnExactTaskOK", apart := false, narrowed := true }
def FnExactTaskOKUptoSaid : Prop := fnExactTaskOKUptoRow.holds Try.pinned (OpenSpec.upto fnExactTaskOKSpec)

/-- 'laws.FnExactFbOK', WHERE WHAT IT READS IS OF BULK AT MOST 1048576: true; the input reads as it did. -/
def fnExactFbOKUptoRow : OpenClaim := { program := "ytgeenpfgkmnpeaa", sum := "50cca5dd8ded95aae0767b291795d9eb6806fef51b891de22c25c43992f3f892", func := "loop.example/g00684/laws.FnExactFbOK", spec := "fnExactFbOK", apart := false, narrowed := true }
def FnExactFbOKUptoSaid : Prop := fnExactFbOKUptoRow.holds Try.pinned (OpenSpec.upto fnExactFbOKSpec)

/-- 'laws.FnExactSummaryOK', WHERE WHAT IT READS IS OF BULK AT MOST 1048576: true; the input reads as it did. -/
def fnExactSummaryOKUptoRow : OpenClaim := { program := "ytgeenpfgkmnpeaa", sum := "50cca5dd8ded95aae0767b291795d9eb6806fef51b891de22c25c43992f3f892", func := "loop.example/g00684/laws.FnExactSummaryOK", spec := "fnExactSummaryOK", apart := false, narrowed := true }
def FnExactSummaryOKUptoSaid : Prop := fnExactSummaryOKUptoRow.holds Try.pinned (OpenSpec.upto fnExactSummaryOKSpec)

/-- 'laws.FnExactCostOf', WHERE WHAT IT READS IS OF BULK AT MOST 1048576: true; the input reads as it did. -/
def fnExactCostOfUptoRow : OpenClaim := { program := "ytgeenpfgkmnpeaa", sum := "50cca5dd8ded95aae0767b291795d9eb6806fef51b891de22c25c43992f3f892", func := "loop.example/g00684/laws.FnExactCostOf", spec := "fnExactCostOf", apart := false, narrowed := true }
def FnExactCostOfUptoSaid : Prop := fnExactCostOfUptoRow.holds Try.pinned (OpenSpec.upto fnExactCostOfSpec)

/-- 'laws.FnExactPutNumber', WHERE WHAT IT READS IS OF BULK AT MOST 1048576: true; the input reads as it did. -/
def fnExactPutNumberUptoRow : OpenClaim := { program := "ytgeenpfgkmnpeaa", sum := "50cca5dd8ded95aae0767b291795d9eb6806fef51b891de22c25c43992f3f892", func := "loop.example/g00684/laws.FnExactPutNumber", spec := "fnExactPutNumber", apart := false, narrowed := true }
def FnExactPutNumberUptoSaid : Prop := fnExactPutNumberUptoRow.holds Try.pinned (OpenSpec.upto fnExactPutNumberSpec)

/-- 'laws.FnExactOneCost', WHERE WHAT IT READS IS OF BULK AT MOST 1048576: true; the input reads as it did. -/
def fnExactOneCostUptoRow : OpenClaim := { program := "ytgeenpfgkmnpeaa", sum := "50cca5dd8ded95aae0767b291795d9eb6806fef51b891de22c25c43992f3f892", func := "loop.example/g00684/laws.FnExactOneCost", spec := "fnExactOneCost", apart := false, narrowed := true }
def FnExactOneCostUptoSaid : Prop := fnExactOneCostUptoRow.holds Try.pinned (OpenSpec.upto fnExactOneCostSpec)

end Rows
end Go.Proofs.Ytgeenpfgkmnpeaa
