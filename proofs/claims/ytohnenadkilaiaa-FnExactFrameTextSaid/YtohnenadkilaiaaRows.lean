/-
  No cell of these rows narrows 'for every input' (looked for: loops, veiled, ifaces, maps, wideKeys, modest, calm, conditions, laid).
  DERIVED. THE GIVEN ROWS OF THIS SEAT. 12 by the template 'for every input the law returns true; each argument reads behind the call as it read before'; 0 by the template 'total and deterministic' (their statements: YtohnenadkilaiaaTotals.lean).
  GIVEN WITH THE SEED: the statements are not yours to turn. If you find one false, say at which input.
  Laid BY PROGRAM, IN A SANDBOX (cutbox-rows.mjs): the forced cells as the released guide's own fill.sh prints them over the translation 31625308c17bb1b4… (all of the seat's roots in one cut). By AI agents, Wed Nov 11 2026. No macro, syntax, notation, axiom, sorry.
-/
import Derived.Test.YtohnenadkilaiaaChecked
import GoSem.Claim
import GoSem.ClaimJoined
import GoSem.ClaimMapViews
import Derived.JoinedTies
import Derived.KernelRfl
namespace Go.Proofs.Ytohnenadkilaiaa
/- THE CELL 'sum', in the pinned program and in every row, IS THE sha256 OF THE DUMP (.gsa) THAT YtohnenadkilaiaaProg.lean LOADS. Nothing in Lean hashes anything: it is a label: what it is worth is what the hold of that sum in a sandbox is worth. -/
noncomputable def Try.pinned : Pinned := { name := "ytohnenadkilaiaa", sum := "31625308c17bb1b4e715d449b2651651f130a6f2ca80085d14311b9b14d21079", checked := Try.checked }
namespace Rows
def none {H : Type} : Left H := { results := [], args := [] }

/-- 'laws.FnExactValueOf': WHATEVER THE INPUT: true; the input reads as it did. -/
def fnExactValueOfSpec : ChangeSpec := { name := "fnExactValueOf", fn := fun _ => fun
  | [d] => { results := [.lit (.bool true)], args := [d] }
  | _ => none }
def fnExactValueOfRow : OpenClaim := { program := "ytohnenadkilaiaa", sum := "31625308c17bb1b4e715d449b2651651f130a6f2ca80085d14311b9b14d21079", func := "loop.example/g00684/laws.FnExactValueOf", spec := "fnExactValueOf", apart := false }
def FnExactValueOfSaid : Prop := fnExactValueOfRow.holds Try.pinned (OpenSpec.ofChange fnExactValueOfSpec)

/-- ITS FALSE NEIGHBOUR: 'it returns false'. Refute it at one input. -/
def fnExactValueOfWrong : ChangeSpec := { name := "fnExactValueOf", fn := fun _ => fun
  | [d] => { results := [.lit (.bool false)], args := [d] }
  | _ => none }
def FnExactValueOfWrongFalsely : Prop := fnExactValueOfRow.holds Try.pinned (OpenSpec.ofChange fnExactValueOfWrong)

/-- 'laws.FnExactChecked': WHATEVER THE INPUT: true; the input reads as it did. -/
def fnExactCheckedSpec : ChangeSpec := { name := "fnExactChecked", fn := fun _ => fun
  | [d1, d2, d3] => { results := [.lit (.bool true)], args := [d1, d2, d3] }
  | _ => none }
def fnExactCheckedRow : OpenClaim := { program := "ytohnenadkilaiaa", sum := "31625308c17bb1b4e715d449b2651651f130a6f2ca80085d14311b9b14d21079", func := "loop.example/g00684/laws.FnExactChecked", spec := "fnExactChecked", apart := false }
def FnExactCheckedSaid : Prop := fnExactCheckedRow.holds Try.pinned (OpenSpec.ofChange fnExactCheckedSpec)

/-- ITS FALSE NEIGHBOUR: 'it returns false'. Refute it at one input. -/
def fnExactCheckedWrong : ChangeSpec := { name := "fnExactChecked", fn := fun _ => fun
  | [d1, d2, d3] => { results := [.lit (.bool false)], args := [d1, d2, d3] }
  | _ => none }
def FnExactCheckedWrongFalsely : Prop := fnExactCheckedRow.holds Try.pinned (OpenSpec.ofChange fnExactCheckedWrong)

/-- 'laws.FnExactInstrOK': WHATEVER THE INPUT: true; the input reads as it did. -/
def fnExactInstrOKSpec : ChangeSpec := { name := "fnExactInstrOK", fn := fun _ => fun
  | [d] => { results := [.lit (.bool true)], args := [d] }
  | _ => none }
def fnExactInstrOKRow : OpenClaim := { program := "ytohnenadkilaiaa", sum := "31625308c17bb1b4e715d449b2651651f130a6f2ca80085d14311b9b14d21079", func := "loop.example/g00684/laws.FnExactInstrOK", spec := "fnExactInstrOK", apart := false }
def FnExactInstrOKSaid : Prop := fnExactInstrOKRow.holds Try.pinned (OpenSpec.ofChange fnExactInstrOKSpec)

/-- ITS FALSE NEIGHBOUR: 'it returns false'. Refute it at one input. -/
def fnExactInstrOKWrong : ChangeSpec := { name := "fnExactInstrOK", fn := fun _ => fun
  | [d] => { results := [.lit (.bool false)], args := [d] }
  | _ => none }
def FnExactInstrOKWrongFalsely : Prop := fnExactInstrOKRow.holds Try.pinned (OpenSpec.ofChange fnExactInstrOKWrong)

/-- 'laws.FnChecked': WHATEVER THE INPUT: true; the input reads as it did. -/
def fnCheckedSpec : ChangeSpec := { name := "fnChecked", fn := fun _ => fun
  | [d1, d2] => { results := [.lit (.bool true)], args := [d1, d2] }
  | _ => none }
def fnCheckedRow : OpenClaim := { program := "ytohnenadkilaiaa", sum := "31625308c17bb1b4e715d449b2651651f130a6f2ca80085d14311b9b14d21079", func := "loop.example/g00684/laws.FnChecked", spec := "fnChecked", apart := false }
def FnCheckedSaid : Prop := fnCheckedRow.holds Try.pinned (OpenSpec.ofChange fnCheckedSpec)

/-- ITS FALSE NEIGHBOUR: 'it returns false'. Refute it at one input. -/
def fnCheckedWrong : ChangeSpec := { name := "fnChecked", fn := fun _ => fun
  | [d1, d2] => { results := [.lit (.bool false)], args := [d1, d2] }
  | _ => none }
def FnCheckedWrongFalsely : Prop := fnCheckedRow.holds Try.pinned (OpenSpec.ofChange fnCheckedWrong)

/-- 'laws.FnExactFrameText': WHATEVER THE INPUT: true; the input reads as it did. -/
def fnExactFrameTextSpec : ChangeSpec := { name := "fnExactFrameText", fn := fun _ => fun
  | [d] => { results := [.lit (.bool true)], args := [d] }
  | _ => none }
def fnExactFrameTextRow : OpenClaim := { program := "ytohnenadkilaiaa", sum := "31625308c17bb1b4e715d449b2651651f130a6f2ca80085d14311b9b14d21079", func := "loop.example/g00684/laws.FnExactFrameText", spec := "fnExactFrameText", apart := false }
def FnExactFrameTextSaid : Prop := fnExactFrameTextRow.holds Try.pinned (OpenSpec.ofChange fnExactFrameTextSpec)

/-- ITS FALSE NEIGHBOUR: 'it returns false'. Refute it at one input. -/
def fnExactFrameTextWrong : ChangeSpec := { name := "fnExactFrameText", fn := fun _ => fun
  | [d] => { results := [.lit (.bool false)], args := [d] }
  | _ => none }
def FnExactFrameTextWrongFalsely : Prop := fnExactFrameTextRow.holds Try.pinned (OpenSpec.ofChange fnExactFrameTextWrong)

/-- 'laws.FnExactBytesOf': WHATEVER THE INPUT: true; the input reads as it did. -/
def fnExactBytesOfSpec : ChangeSpec := { name := "fnExactBytesOf", fn := fun _ => fun
  | [d] => { results := [.lit (.bool true)], args := [d] }
  | _ => none }
def fnExactBytesOfRow : OpenClaim := { program := "ytohnenadkilaiaa", sum := "31625308c17bb1b4e715d449b2651651f130a6f2ca80085d14311b9b14d21079", func := "loop.example/g00684/laws.FnExactBytesOf", spec := "fnExactBytesOf", apart := false }
def FnExactBytesOfSaid : Prop := fnExactBytesOfRow.holds Try.pinned (OpenSpec.ofChange fnExactBytesOfSpec)

/-- ITS FALSE NEIGHBOUR: 'it returns false'. Refute it at one input. -/
def fnExactBytesOfWrong : ChangeSpec := { name := "fnExactBytesOf", fn := fun _ => fun
  | [d] => { results := [.lit (.bool false)], args := [d] }
  | _ => none }
def FnExactBytesOfWrongFalsely : Prop := fnExactBytesOfRow.holds Try.pinned (OpenSpec.ofChange fnExactBytesOfWrong)

/-- 'laws.FnExactLongestOf': WHATEVER THE INPUT: true; the input reads as it did. -/
def fnExactLongestOfSpec : ChangeSpec := { name := "fnExactLongestOf", fn := fun _ => fun
  | [d] => { results := [.lit (.bool true)], args := [d] }
  | _ => none }
def fnExactLongestOfRow : OpenClaim := { program := "ytohnenadkilaiaa", sum := "31625308c17bb1b4e715d449b2651651f130a6f2ca80085d14311b9b14d21079", func := "loop.example/g00684/laws.FnExactLongestOf", spec := "fnExactLongestOf", unfollowed := true, recurses := true, apart := false }
def FnExactLongestOfSaid : Prop := fnExactLongestOfRow.holds Try.pinned (OpenSpec.ofChange fnExactLongestOfSpec)

/-- ITS FALSE NEIGHBOUR: 'it returns false'. Refute it at one input. -/
def fnExactLongestOfWrong : ChangeSpec := { name := "fnExactLongestOf", fn := fun _ => fun
  | [d] => { results := [.lit (.bool false)], args := [d] }
  | _ => none }
def FnExactLongestOfWrongFalsely : Prop := fnExactLongestOfRow.holds Try.pinned (OpenSpec.ofChange fnExactLongestOfWrong)

/-- 'laws.FnCounter': WHATEVER THE INPUT: true; the input reads as it did. -/
def fnCounterSpec : ChangeSpec := { name := "fnCounter", fn := fun _ => fun
  | [d1, d2] => { results := [.lit (.bool true)], args := [d1, d2] }
  | _ => none }
def fnCounterRow : OpenClaim := { program := "ytohnenadkilaiaa", sum := "31625308c17bb1b4e715d449b2651651f130a6f2ca80085d14311b9b14d21079", func := "loop.example/g00684/laws.FnCounter", spec := "fnCounter", apart := false }
def FnCounterSaid : Prop := fnCounterRow.holds Try.pinned (OpenSpec.ofChange fnCounterSpec)

/-- ITS FALSE NEIGHBOUR: 'it returns false'. Refute it at one input. -/
def fnCounterWrong : ChangeSpec := { name := "fnCounter", fn := fun _ => fun
  | [d1, d2] => { results := [.lit (.bool false)], args := [d1, d2] }
  | _ => none }
def FnCounterWrongFalsely : Prop := fnCounterRow.holds Try.pinned (OpenSpec.ofChange fnCounterWrong)

/-- 'laws.FnTimer': WHATEVER THE INPUT: true; the input reads as it did. -/
def fnTimerSpec : ChangeSpec := { name := "fnTimer", fn := fun _ => fun
  | [d1, d2] => { results := [.lit (.bool true)], args := [d1, d2] }
  | _ => none }
def fnTimerRow : OpenClaim := { program := "ytohnenadkilaiaa", sum := "31625308c17bb1b4e715d449b2651651f130a6f2ca80085d14311b9b14d21079", func := "loop.example/g00684/laws.FnTimer", spec := "fnTimer", apart := false }
def FnTimerSaid : Prop := fnTimerRow.holds Try.pinned (OpenSpec.ofChange fnTimerSpec)

/-- ITS FALSE NEIGHBOUR: 'it returns false'. Refute it at one input. -/
def fnTimerWrong : ChangeSpec := { name := "fnTimer", fn := fun _ => fun
  | [d1, d2] => { results := [.lit (.bool false)], args := [d1, d2] }
  | _ => none }
def FnTimerWrongFalsely : Prop := fnTimerRow.holds Try.pinned (OpenSpec.ofChange fnTimerWrong)

/-- 'laws.FnExactEither': WHATEVER THE INPUT: true; the input reads as it did. -/
def fnExactEitherSpec : ChangeSpec := { name := "fnExactEither", fn := fun _ => fun
  | [d1, d2] => { results := [.lit (.bool true)], args := [d1, d2] }
  | _ => none }
def fnExactEitherRow : OpenClaim := { program := "ytohnenadkilaiaa", sum := "31625308c17bb1b4e715d449b2651651f130a6f2ca80085d14311b9b14d21079", func := "loop.example/g00684/laws.FnExactEither", spec := "fnExactEither", unfollowed := true, recurses := true, apart := false }
def FnExactEitherSaid : Prop := fnExactEitherRow.holds Try.pinned (OpenSpec.ofChange fnExactEitherSpec)

/-- ITS FALSE NEIGHBOUR: 'it returns false'. Refute it at one input. -/
def fnExactEitherWrong : ChangeSpec := { name := "fnExactEither", fn := fun _ => fun
  | [d1, d2] => { results := [.lit (.bool false)], args := [d1, d2] }
  | _ => none }
def FnExactEitherWrongFalsely : Prop := fnExactEitherRow.holds Try.pinned (OpenSpec.ofChange fnExactEitherWrong)

/-- 'laws.FnBusy': WHATEVER THE INPUT: true; the input reads as it did. -/
def fnBusySpec : ChangeSpec := { name := "fnBusy", fn := fun _ => fun
  | [d1, d2] => { results := [.lit (.bool true)], args := [d1, d2] }
  | _ => none }
def fnBusyRow : OpenClaim := { program := "ytohnenadkilaiaa", sum := "31625308c17bb1b4e715d449b2651651f130a6f2ca80085d14311b9b14d21079", func := "loop.example/g00684/laws.FnBusy", spec := "fnBusy", apart := false }
def FnBusySaid : Prop := fnBusyRow.holds Try.pinned (OpenSpec.ofChange fnBusySpec)

/-- ITS FALSE NEIGHBOUR: 'it returns false'. Refute it at one input. -/
def fnBusyWrong : ChangeSpec := { name := "fnBusy", fn := fun _ => fun
  | [d1, d2] => { results := [.lit (.bool false)], args := [d1, d2] }
  | _ => none }
def FnBusyWrongFalsely : Prop := fnBusyRow.holds Try.pinned (OpenSpec.ofChange fnBusyWrong)

/-- 'laws.FnExactBusyPeriod': WHATEVER THE INPUT: true; the input reads as it did. -/
def fnExactBusyPeriodSpec : ChangeSpec := { name := "fnExactBusyPeriod", fn := fun _ => fun
  | [d1, d2, d3] => { results := [.lit (.bool true)], args := [d1, d2, d3] }
  | _ => none }
def fnExactBusyPeriodRow : OpenClaim := { program := "ytohnenadkilaiaa", sum := "31625308c17bb1b4e715d449b2651651f130a6f2ca80085d14311b9b14d21079", func := "loop.example/g00684/laws.FnExactBusyPeriod", spec := "fnExactBusyPeriod", apart := false }
def FnExactBusyPeriodSaid : Prop := fnExactBusyPeriodRow.holds Try.pinned (OpenSpec.ofChange fnExactBusyPeriodSpec)

/-- ITS FALSE NEIGHBOUR: 'it returns false'. Refute it at one input. -/
def fnExactBusyPeriodWrong : ChangeSpec := { name := "fnExactBusyPeriod", fn := fun _ => fun
  | [d1, d2, d3] => { results := [.lit (.bool false)], args := [d1, d2, d3] }
  | _ => none }
def FnExactBusyPeriodWrongFalsely : Prop := fnExactBusyPeriodRow.holds Try.pinned (OpenSpec.ofChange fnExactBusyPeriodWrong)

/- THE SECOND FORM. 'bulk': how many values and letters a reading holds, each counted each time it is reached (what is shared counts as often as it is met; a slice's spare places count too). A statement '..UptoSaid' is the law's where the arguments, and the package variables that the reading takes, are together of bulk at most 1048576: NARROWER than '..Said'. Prove '..Said' where nothing that the law and all that it calls make is longer than what came in: it says more and counts as full. Else prove '..UptoSaid'. A law counts once. -/
mutual
def uptoBulk {H : Type} : DataW H → Nat
  | .lit (.string bytes) => bytes.length + 1
  | .lit _ => 1
  | .nil => 1
  | .ptr d => uptoBulk d + 1
  | .slice elems spare => uptoBulkAll elems + uptoBulkAll spare + 1
  | .agg parts => uptoBulkAll parts + 1
  | .iface _ d => uptoBulk d + 1
  | .map entries => uptoBulkEntries entries + 1
  | .held _ => 1
def uptoBulkAll {H : Type} : List (DataW H) → Nat
  | [] => 0
  | d :: r => uptoBulk d + uptoBulkAll r
def uptoBulkEntries {H : Type} : List (Lit × DataW H) → Nat
  | [] => 0
  | x :: r => uptoBulkEntry x + uptoBulkEntries r
def uptoBulkEntry {H : Type} : Lit × DataW H → Nat
  | (.string bytes, d) => bytes.length + uptoBulk d + 1
  | (_, d) => uptoBulk d + 1
 end
def uptoSmall : (H : Type) → List (DataW H) → Bool := fun _ ds => decide (uptoBulkAll ds ≤ 1048576)
def OpenSpec.upto (s : _root_.Go.ChangeSpec) : _root_.Go.OpenSpec := { _root_.Go.OpenSpec.ofChange s with cond := some uptoSmall }

/-- 'laws.FnExactValueOf', WHERE WHAT IT READS IS OF BULK AT MOST 1048576: true; the input reads as it did. -/
def fnExactValueOfUptoRow : OpenClaim := { program := "ytohnenadkilaiaa", sum := "31625308c17bb1b4e715d449b2651651f130a6f2ca80085d14311b9b14d21079", func := "loop.example/g00684/laws.FnExactValueOf", spec := "fnExactValueOf", apart := false, narrowed := true }
def FnExactValueOfUptoSaid : Prop := fnExactValueOfUptoRow.holds Try.pinned (OpenSpec.upto fnExactValueOfSpec)

/-- 'laws.FnExactChecked', WHERE WHAT IT READS IS OF BULK AT MOST 1048576: true; the input reads as it did. -/
def fnExactCheckedUptoRow : OpenClaim := { program := "ytohnenadkilaiaa", sum := "31625308c17bb1b4e715d449b2651651f130a6f2ca80085d14311b9b14d21079", func := "loop.example/g00684/laws.FnExactChecked", spec := "fnExactChecked", apart := false, narrowed := true }
def FnExactCheckedUptoSaid : Prop := fnExactCheckedUptoRow.holds Try.pinned (OpenSpec.upto fnExactCheckedSpec)

/-- 'laws.FnExactInstrOK', WHERE WHAT IT READS IS OF BULK AT MOST 1048576: true; the input reads as it did. -/
def fnExactInstrOKUptoRow : OpenClaim := { program := "ytohnenadkilaiaa", sum := "31625308c17bb1b4e715d449b2651651f130a6f2ca80085d14311b9b14d21079", func := "loop.example/g00684/laws.FnExactInstrOK", spec := "fnExactInstrOK", apart := false, narrowed := true }
def FnExactInstrOKUptoSaid : Prop := fnExactInstrOKUptoRow.holds Try.pinned (OpenSpec.upto fnExactInstrOKSpec)

/-- 'laws.FnChecked', WHERE WHAT IT READS IS OF BULK AT MOST 1048576: true; the input reads as it did. -/
def fnCheckedUptoRow : OpenClaim := { program := "ytohnenadkilaiaa", sum := "31625308c17bb1b4e715d449b2651651f130a6f2ca80085d14311b9b14d21079", func := "loop.example/g00684/laws.FnChecked", spec := "fnChecked", apart := false, narrowed := true }
def FnCheckedUptoSaid : Prop := fnCheckedUptoRow.holds Try.pinned (OpenSpec.upto fnCheckedSpec)

/-- 'laws.FnExactFrameText', WHERE WHAT IT READS IS OF BULK AT MOST 1048576: true; the input reads as it did. -/
def fnExactFrameTextUptoRow : OpenClaim := { program := "ytohnenadkilaiaa", sum := "31625308c17bb1b4e715d449b2651651f130a6f2ca80085d14311b9b14d21079", func := "loop.example/g00684/laws.FnExactFrameText", spec := "fnExactFrameText", apart := false, narrowed := true }
def FnExactFrameTextUptoSaid : Prop := fnExactFrameTextUptoRow.holds Try.pinned (OpenSpec.upto fnExactFrameTextSpec)

/-- 'laws.FnExactBytesOf', WHERE WHAT IT READS IS OF BULK AT MOST 1048576: true; the input reads as it did. -/
def fnExactBytesOfUptoRow : OpenClaim := { program := "ytohnenadkilaiaa", sum := "31625308c17bb1b4e715d449b2651651f130a6f2ca80085d14311b9b14d21079", func := "loop.example/g00684/laws.FnExactBytesOf", spec := "fnExactBytesOf", apart := false, narrowed := true }
def FnExactBytesOfUptoSaid : Prop := fnExactBytesOfUptoRow.holds Try.pinned (OpenSpec.upto fnExactBytesOfSpec)

/-- 'laws.FnExactLongestOf', WHERE WHAT IT READS IS OF BULK AT MOST 1048576: true; the input reads as it did. -/
def fnExactLongestOfUptoRow : OpenClaim := { program := "ytohnenadkilaiaa", sum := "31625308c17bb1b4e715d449b2651651f130a6f2ca80085d14311b9b14d21079", func := "loop.example/g00684/laws.FnExactLongestOf", spec := "fnExactLongestOf", unfollowed := true, recurses := true, apart := false, narrowed := true }
def FnExactLongestOfUptoSaid : Prop := fnExactLongestOfUptoRow.holds Try.pinned (OpenSpec.upto fnExactLongestOfSpec)

/-- 'laws.FnCounter', WHERE WHAT IT READS IS OF BULK AT MOST 1048576: true; the input reads as it did. -/
def fnCounterUptoRow : OpenClaim := { program := "ytohnenadkilaiaa", sum := "31625308c17bb1b4e715d449b2651651f130a6f2ca80085d14311b9b14d21079", func := "loop.example/g00684/laws.FnCounter", spec := "fnCounter", apart := false, narrowed := true }
def FnCounterUptoSaid : Prop := fnCounterUptoRow.holds Try.pinned (OpenSpec.upto fnCounterSpec)

/-- 'laws.FnTimer', WHERE WHAT IT READS IS OF BULK AT MOST 1048576: true; the input reads as it did. -/
def fnTimerUptoRow : OpenClaim := { program := "ytohnenadkilaiaa", sum := "31625308c17bb1b4e715d449b2651651f130a6f2ca80085d14311b9b14d21079", func := "loop.example/g00684/laws.FnTimer", spec := "fnTimer", apart := false, narrowed := true }
def FnTimerUptoSaid : Prop := fnTimerUptoRow.holds Try.pinned (OpenSpec.upto fnTimerSpec)

/-- 'laws.FnExactEither', WHERE WHAT IT READS IS OF BULK AT MOST 1048576: true; the input reads as it did. -/
def fnExactEitherUptoRow : OpenClaim := { program := "ytohnenadkilaiaa", sum := "31625308c17bb1b4e715d449b2651651f130a6f2ca80085d14311b9b14d21079", func := "loop.example/g00684/laws.FnExactEither", spec := "fnExactEither", unfollowed := true, recurses := true, apart := false, narrowed := true }
def FnExactEitherUptoSaid : Prop := fnExactEitherUptoRow.holds Try.pinned (OpenSpec.upto fnExactEitherSpec)

/-- 'laws.FnBusy', WHERE WHAT IT READS IS OF BULK AT MOST 1048576: true; the input reads as it did. -/
def fnBusyUptoRow : OpenClaim := { program := "ytohnenadkilaiaa", sum := "31625308c17bb1b4e715d449b2651651f130a6f2ca80085d14311b9b14d21079", func := "loop.example/g00684/laws.FnBusy", spec := "fnBusy", apart := false, narrowed := true }
def FnBusyUptoSaid : Prop := fnBusyUptoRow.holds Try.pinned (OpenSpec.upto fnBusySpec)

/-- 'laws.FnExactBusyPeriod', WHERE WHAT IT READS IS OF BULK AT MOST 1048576: true; the input reads as it did. -/
def fnExactBusyPeriodUptoRow : OpenClaim := { program := "ytohnenadkilaiaa", sum := "31625308c17bb1b4e715d449b2651651f130a6f2ca80085d14311b9b14d21079", func := "loop.example/g00684/laws.FnExactBusyPeriod", spec := "fnExactBusyPeriod", apart := false, narrowed := true }
def FnExactBusyPeriodUptoSaid : Prop := fnExactBusyPeriodUptoRow.holds Try.pinned (OpenSpec.upto fnExactBusyPeriodSpec)

end Rows
end Go.Proofs.Ytohnenadkilaiaa
