/-
  No cell of these rows narrows 'for every input' (looked for: loops, veiled, ifaces, maps, wideKeys, modest, calm, conditions, laid).
  DERIVED. THE GIVEN ROWS OF THIS SEAT. 8 by the template 'for every input the law returns true; each argument reads behind the call as it read before'; 0 by the template 'total and deterministic' (their statements: YtjgdfbcjlebniaaTotals.lean).
  GIVEN WITH THE SEED: the statements are not yours to turn. If you find one false, say at which input.
  Laid BY PROGRAM, IN A SANDBOX (cutbox-rows.mjs): the forced cells as the released guide's own fill.sh prints them over the translation 0ddbc4a7952dbef3… (all of the seat's roots in one cut). By AI agents, Wed Nov 11 2026. No macro, syntax, notation, axiom, sorry.
-/
import Derived.Test.YtjgdfbcjlebniaaChecked
import GoSem.Claim
import GoSem.ClaimJoined
import GoSem.ClaimMapViews
import Derived.JoinedTies
import Derived.KernelRfl
namespace Go.Proofs.Ytjgdfbcjlebniaa
/- THE CELL 'sum', in the pinned program and in every row, IS THE sha256 OF THE DUMP (.gsa) THAT YtjgdfbcjlebniaaProg.lean LOADS. Nothing in Lean hashes anything: it is a label: what it is worth is what the hold of that sum in a sandbox is worth. -/
noncomputable def Try.pinned : Pinned := { name := "ytjgdfbcjlebniaa", sum := "0ddbc4a7952dbef3171048ff32bd5a6dc13c3761fa39345d6613fa93c4869be4", checked := Try.checked }
namespace Rows
def none {H : Type} : Left H := { results := [], args := [] }

/-- 'laws.FnExactDataOK': WHATEVER THE INPUT: true; the input reads as it did. -/
def fnExactDataOKSpec : ChangeSpec := { name := "fnExactDataOK", fn := fun _ => fun
  | [d] => { results := [.lit (.bool true)], args := [d] }
  | _ => none }
def fnExactDataOKRow : OpenClaim := { program := "ytjgdfbcjlebniaa", sum := "0ddbc4a7952dbef3171048ff32bd5a6dc13c3761fa39345d6613fa93c4869be4", func := "loop.example/g00684/laws.FnExactDataOK", spec := "fnExactDataOK", unfollowed := true, recurses := true, apart := false }
def FnExactDataOKSaid : Prop := fnExactDataOKRow.holds Try.pinned (OpenSpec.ofChange fnExactDataOKSpec)

/-- ITS FALSE NEIGHBOUR: 'it returns false'. Refute it at one input. -/
def fnExactDataOKWrong : ChangeSpec := { name := "fnExactDataOK", fn := fun _ => fun
  | [d] => { results := [.lit (.bool false)], args := [d] }
  | _ => none }
def FnExactDataOKWrongFalsely : Prop := fnExactDataOKRow.holds Try.pinned (OpenSpec.ofChange fnExactDataOKWrong)

/-- 'laws.FnExactNewData': WHATEVER THE INPUT: true; the input reads as it did. -/
def fnExactNewDataSpec : ChangeSpec := { name := "fnExactNewData", fn := fun _ => fun
  | [d] => { results := [.lit (.bool true)], args := [d] }
  | _ => none }
def fnExactNewDataRow : OpenClaim := { program := "ytjgdfbcjlebniaa", sum := "0ddbc4a7952dbef3171048ff32bd5a6dc13c3761fa39345d6613fa93c4869be4", func := "loop.example/g00684/laws.FnExactNewData", spec := "fnExactNewData", unfollowed := true, recurses := true, apart := false }
def FnExactNewDataSaid : Prop := fnExactNewDataRow.holds Try.pinned (OpenSpec.ofChange fnExactNewDataSpec)

/-- ITS FALSE NEIGHBOUR: 'it returns false'. Refute it at one input. -/
def fnExactNewDataWrong : ChangeSpec := { name := "fnExactNewData", fn := fun _ => fun
  | [d] => { results := [.lit (.bool false)], args := [d] }
  | _ => none }
def FnExactNewDataWrongFalsely : Prop := fnExactNewDataRow.holds Try.pinned (OpenSpec.ofChange fnExactNewDataWrong)

/-- 'laws.FnExactSameData': WHATEVER THE INPUT: true; the input reads as it did. -/
def fnExactSameDataSpec : ChangeSpec := { name := "fnExactSameData", fn := fun _ => fun
  | [d1, d2] => { results := [.lit (.bool true)], args := [d1, d2] }
  | _ => none }
def fnExactSameDataRow : OpenClaim := { program := "ytjgdfbcjlebniaa", sum := "0ddbc4a7952dbef3171048ff32bd5a6dc13c3761fa39345d6613fa93c4869be4", func := "loop.example/g00684/laws.FnExactSameData", spec := "fnExactSameData", unfollowed := true, recurses := true, apart := false }
def FnExactSameDataSaid : Prop := fnExactSameDataRow.holds Try.pinned (OpenSpec.ofChange fnExactSameDataSpec)

/-- ITS FALSE NEIGHBOUR: 'it returns false'. Refute it at one input. -/
def fnExactSameDataWrong : ChangeSpec := { name := "fnExactSameData", fn := fun _ => fun
  | [d1, d2] => { results := [.lit (.bool false)], args := [d1, d2] }
  | _ => none }
def FnExactSameDataWrongFalsely : Prop := fnExactSameDataRow.holds Try.pinned (OpenSpec.ofChange fnExactSameDataWrong)

/-- 'laws.FnExactDemoProgram': WHATEVER THE INPUT: true; the input reads as it did. -/
def fnExactDemoProgramSpec : ChangeSpec := { name := "fnExactDemoProgram", fn := fun _ => fun
  | [] => { results := [.lit (.bool true)], args := [] }
  | _ => none }
def fnExactDemoProgramRow : OpenClaim := { program := "ytjgdfbcjlebniaa", sum := "0ddbc4a7952dbef3171048ff32bd5a6dc13c3761fa39345d6613fa93c4869be4", func := "loop.example/g00684/laws.FnExactDemoProgram", spec := "fnExactDemoProgram", apart := false }
def FnExactDemoProgramSaid : Prop := fnExactDemoProgramRow.holds Try.pinned (OpenSpec.ofChange fnExactDemoProgramSpec)

/-- ITS FALSE NEIGHBOUR: 'it returns false'. Refute it at one input. -/
def fnExactDemoProgramWrong : ChangeSpec := { name := "fnExactDemoProgram", fn := fun _ => fun
  | [] => { results := [.lit (.bool false)], args := [] }
  | _ => none }
def FnExactDemoProgramWrongFalsely : Prop := fnExactDemoProgramRow.holds Try.pinned (OpenSpec.ofChange fnExactDemoProgramWrong)

/-- 'laws.FnExactKindsOf': WHATEVER THE INPUT: true; the input reads as it did. -/
def fnExactKindsOfSpec : ChangeSpec := { name := "fnExactKindsOf", fn := fun _ => fun
  | [d] => { results := [.lit (.bool true)], args := [d] }
  | _ => none }
def fnExactKindsOfRow : OpenClaim := { program := "ytjgdfbcjlebniaa", sum := "0ddbc4a7952dbef3171048ff32bd5a6dc13c3761fa39345d6613fa93c4869be4", func := "loop.example/g00684/laws.FnExactKindsOf", spec := "fnExactKindsOf", unfollowed := true, recurses := true, apart := false }
def FnExactKindsOfSaid : Prop := fnExactKindsOfRow.holds Try.pinned (OpenSpec.ofChange fnExactKindsOfSpec)

/-- ITS FALSE NEIGHBOUR: 'it returns false'. Refute it at one input. -/
def fnExactKindsOfWrong : ChangeSpec := { name := "fnExactKindsOf", fn := fun _ => fun
  | [d] => { results := [.lit (.bool false)], args := [d] }
  | _ => none }
def FnExactKindsOfWrongFalsely : Prop := fnExactKindsOfRow.holds Try.pinned (OpenSpec.ofChange fnExactKindsOfWrong)

/-- 'laws.FnExactVerifyCode': WHATEVER THE INPUT: true; the input reads as it did. -/
def fnExactVerifyCodeSpec : ChangeSpec := { name := "fnExactVerifyCode", fn := fun _ => fun
  | [d1, d2, d3] => { results := [.lit (.bool true)], args := [d1, d2, d3] }
  | _ => none }
def fnExactVerifyCodeRow : OpenClaim := { program := "ytjgdfbcjlebniaa", sum := "0ddbc4a7952dbef3171048ff32bd5a6dc13c3761fa39345d6613fa93c4869be4", func := "loop.example/g00684/laws.FnExactVerifyCode", spec := "fnExactVerifyCode", unfollowed := true, recurses := true, apart := false }
def FnExactVerifyCodeSaid : Prop := fnExactVerifyCodeRow.holds Try.pinned (OpenSpec.ofChange fnExactVerifyCodeSpec)

/-- ITS FALSE NEIGHBOUR: 'it returns false'. Refute it at one input. -/
def fnExactVerifyCodeWrong : ChangeSpec := { name := "fnExactVerifyCode", fn := fun _ => fun
  | [d1, d2, d3] => { results := [.lit (.bool false)], args := [d1, d2, d3] }
  | _ => none }
def FnExactVerifyCodeWrongFalsely : Prop := fnExactVerifyCodeRow.holds Try.pinned (OpenSpec.ofChange fnExactVerifyCodeWrong)

/-- 'laws.FnExactStackAt': WHATEVER THE INPUT: true; the input reads as it did. -/
def fnExactStackAtSpec : ChangeSpec := { name := "fnExactStackAt", fn := fun _ => fun
  | [d1, d2, d3, d4] => { results := [.lit (.bool true)], args := [d1, d2, d3, d4] }
  | _ => none }
def fnExactStackAtRow : OpenClaim := { program := "ytjgdfbcjlebniaa", sum := "0ddbc4a7952dbef3171048ff32bd5a6dc13c3761fa39345d6613fa93c4869be4", func := "loop.example/g00684/laws.FnExactStackAt", spec := "fnExactStackAt", unfollowed := true, recurses := true, apart := false }
def FnExactStackAtSaid : Prop := fnExactStackAtRow.holds Try.pinned (OpenSpec.ofChange fnExactStackAtSpec)

/-- ITS FALSE NEIGHBOUR: 'it returns false'. Refute it at one input. -/
def fnExactStackAtWrong : ChangeSpec := { name := "fnExactStackAt", fn := fun _ => fun
  | [d1, d2, d3, d4] => { results := [.lit (.bool false)], args := [d1, d2, d3, d4] }
  | _ => none }
def FnExactStackAtWrongFalsely : Prop := fnExactStackAtRow.holds Try.pinned (OpenSpec.ofChange fnExactStackAtWrong)

/-- 'laws.FnExactVerifyAll': WHATEVER THE INPUT: true; the input reads as it did. -/
def fnExactVerifyAllSpec : ChangeSpec := { name := "fnExactVerifyAll", fn := fun _ => fun
  | [d1, d2] => { results := [.lit (.bool true)], args := [d1, d2] }
  | _ => none }
def fnExactVerifyAllRow : OpenClaim := { program := "ytjgdfbcjlebniaa", sum := "0ddbc4a7952dbef3171048ff32bd5a6dc13c3761fa39345d6613fa93c4869be4", func := "loop.example/g00684/laws.FnExactVerifyAll", spec := "fnExactVerifyAll", unfollowed := true, recurses := true, apart := false }
def FnExactVerifyAllSaid : Prop := fnExactVerifyAllRow.holds Try.pinned (OpenSpec.ofChange fnExactVerifyAllSpec)

/-- ITS FALSE NEIGHBOUR: 'it returns false'. Refute it at one input. -/
def fnExactVerifyAllWrong : ChangeSpec := { name := "fnExactVerifyAll", fn := fun _ => fun
  | [d1, d2] => { results := [.lit (.bool false)], args := [d1, d2] }
  | _ => none }
def FnExactVerifyAllWrongFalsely : Prop := fnExactVerifyAllRow.holds Try.pinned (OpenSpec.ofChange fnExactVerifyAllWrong)

/- THE SECOND FORM. 'bulk': how many values and letters a reading holds, each counted each time it is reached (what is shared counts as often as it is met; a slice's spare places count too). A statement '..UptoSaid' is the law's where the arguments, and the package variables that the reading takes, are together of bulk at most 1048576: NARROWER than '..Said'. Prove '..Said' where nothing that the law and all that it calls make is longer than what came in: it says more and counts as full. Else prove '..UptoSaid'. A law counts once. -/
mutual
def uptoBulk {H : Type} : DataW H → Nat
  | .lit (.string bytes) => bytes.length + 1
  | .lit _ => 1
  | .nil => 1
  | .ptr d => uptoBulk d + 1
  | .slice elems spare => uptoBulkAll elems + uptoBulkAll spare + 1
  | .agg parts => uptoBulkAll parts + 1
  | .iface _ d => uptoBulk d + 1
  | .map entries => uptoBulkEntries entries + 1
  | .held _ => 1
def uptoBulkAll {H : Type} : List (DataW H) → Nat
  | [] => 0
  | d :: r => uptoBulk d + uptoBulkAll r
def uptoBulkEntries {H : Type} : List (Lit × DataW H) → Nat
  | [] => 0
  | x :: r => uptoBulkEntry x + uptoBulkEntries r
def uptoBulkEntry {H : Type} : Lit × DataW H → Nat
  | (.string bytes, d) => bytes.length + uptoBulk d + 1
  | (_, d) => uptoBulk d + 1
 end
def uptoSmall : (H : Type) → List (DataW H) → Bool := fun _ ds => decide (uptoBulkAll ds ≤ 1048576)
def OpenSpec.upto (s : _root_.Go.ChangeSpec) : _root_.Go.OpenSpec := { _root_.Go.OpenSpec.ofChange s with cond := some uptoSmall }

/-- 'laws.FnExactDataOK', WHERE WHAT IT READS IS OF BULK AT MOST 1048576: true; the input reads as it did. -/
def fnExactDataOKUptoRow : OpenClaim := { program := "ytjgdfbcjlebniaa", sum := "0ddbc4a7952dbef3171048ff32bd5a6dc13c3761fa39345d6613fa93c4869be4", func := "loop.example/g00684/laws.FnExactDataOK", spec := "fnExactDataOK", unfollowed := true, recurses := true, apart := false, narrowed := true }
def FnExactDataOKUptoSaid : Prop := fnExactDataOKUptoRow.holds Try.pinned (OpenSpec.upto fnExactDataOKSpec)

/-- 'laws.FnExactNewData', WHERE WHAT IT READS IS OF BULK AT MOST 1048576: true; the input reads as it did. -/
def fnExactNewDataUptoRow : OpenClaim := { program := "ytjgdfbcjlebniaa", sum := "0ddbc4a7952dbef3171048ff32bd5a6dc13c3761fa39345d6613fa93c4869be4", func := "loop.example/g00684/laws.FnExactNewData", spec := "fnExactNewData", unfollowed := true, recurses := true, apart := false, narrowed := true }
def FnExactNewDataUptoSaid : Prop := fnExactNewDataUptoRow.holds Try.pinned (OpenSpec.upto fnExactNewDataSpec)

/-- 'laws.FnExactSameData', WHERE WHAT IT READS IS OF BULK AT MOST 1048576: true; the input reads as it did. -/
def fnExactSameDataUptoRow : OpenClaim := { program := "ytjgdfbcjlebniaa", sum := "0ddbc4a7952dbef3171048ff32bd5a6dc13c3761fa39345d6613fa93c4869be4", func := "loop.example/g00684/laws.FnExactSameData", spec := "fnExactSameData", unfollowed := true, recurses := true, apart := false, narrowed := true }
def FnExactSameDataUptoSaid : Prop := fnExactSameDataUptoRow.holds Try.pinned (OpenSpec.upto fnExactSameDataSpec)

/-- 'laws.FnExactDemoProgram', WHERE WHAT IT READS IS OF BULK AT MOST 1048576: true; the input reads as it did. -/
def fnExactDemoProgramUptoRow : OpenClaim := { program := "ytjgdfbcjlebniaa", sum := "0ddbc4a7952dbef3171048ff32bd5a6dc13c3761fa39345d6613fa93c4869be4", func := "loop.example/g00684/laws.FnExactDemoProgram", spec := "fnExactDemoProgram", apart := false, narrowed := true }
def FnExactDemoProgramUptoSaid : Prop := fnExactDemoProgramUptoRow.holds Try.pinned (OpenSpec.upto fnExactDemoProgramSpec)

/-- 'laws.FnExactKindsOf', WHERE WHAT IT READS IS OF BULK AT MOST 1048576: true; the input reads as it did. -/
def fnExactKindsOfUptoRow : OpenClaim := { program := "ytjgdfbcjlebniaa", sum := "0ddbc4a7952dbef3171048ff32bd5a6dc13c3761fa39345d6613fa93c4869be4", func := "loop.example/g00684/laws.FnExactKindsOf", spec := "fnExactKindsOf", unfollowed := true, recurses := true, apart := false, narrowed := true }
def FnExactKindsOfUptoSaid : Prop := fnExactKindsOfUptoRow.holds Try.pinned (OpenSpec.upto fnExactKindsOfSpec)

/-- 'laws.FnExactVerifyCode', WHERE WHAT IT READS IS OF BULK AT MOST 1048576: true; the input reads as it did. -/
def fnExactVerifyCodeUptoRow : OpenClaim := { program := "ytjgdfbcjlebniaa", sum := "0ddbc4a7952dbef3171048ff32bd5a6dc13c3761fa39345d6613fa93c4869be4", func := "loop.example/g00684/laws.FnExactVerifyCode", spec := "fnExactVerifyCode", unfollowed := true, recurses := true, apart := false, narrowed := true }
def FnExactVerifyCodeUptoSaid : Prop := fnExactVerifyCodeUptoRow.holds Try.pinned (OpenSpec.upto fnExactVerifyCodeSpec)

/-- 'laws.FnExactStackAt', WHERE WHAT IT READS IS OF BULK AT MOST 1048576: true; the input reads as it did. -/
def fnExactStackAtUptoRow : OpenClaim := { program := "ytjgdfbcjlebniaa", sum := "0ddbc4a7952dbef3171048ff32bd5a6dc13c3761fa39345d6613fa93c4869be4", func := "loop.example/g00684/laws.FnExactStackAt", spec := "fnExactStackAt", unfollowed := true, recurses := true, apart := false, narrowed := true }
def FnExactStackAtUptoSaid : Prop := fnExactStackAtUptoRow.holds Try.pinned (OpenSpec.upto fnExactStackAtSpec)

/-- 'laws.FnExactVerifyAll', WHERE WHAT IT READS IS OF BULK AT MOST 1048576: true; the input reads as it did. -/
def fnExactVerifyAllUptoRow : OpenClaim := { program := "ytjgdfbcjlebniaa", sum := "0ddbc4a7952dbef3171048ff32bd5a6dc13c3761fa39345d6613fa93c4869be4", func := "loop.example/g00684/laws.FnExactVerifyAll", spec := "fnExactVerifyAll", unfollowed := true, recurses := true, apart := false, narrowed := true }
def FnExactVerifyAllUptoSaid : Prop := fnExactVerifyAllUptoRow.holds Try.pinned (OpenSpec.upto fnExactVerifyAllSpec)

end Rows
end Go.Proofs.Ytjgdfbcjlebniaa
