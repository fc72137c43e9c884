/-
  No cell of these rows narrows 'for every input' (looked for: loops, veiled, ifaces, maps, wideKeys, modest, calm, conditions, laid).
  DERIVED. THE GIVEN ROWS OF THIS SEAT. 8 by the template 'for every input the law returns true; each argument reads behind the call as it read before'; 0 by the template 'total and deterministic' (their statements: YtagfalmpanlabaaTotals.lean).
  GIVEN WITH THE SEED: the statements are not yours to turn. If you find one false, say at which input.
  Laid BY PROGRAM, IN A SANDBOX (cutbox-rows.mjs): the forced cells as the released guide's own fill.sh prints them over the translation c094861bc945cfc3… (all of the seat's roots in one cut). By AI agents, Wed Nov 11 2026. No macro, syntax, notation, axiom, sorry.
-/
import Derived.Test.YtagfalmpanlabaaChecked
import GoSem.Claim
import GoSem.ClaimJoined
import GoSem.ClaimMapViews
import Derived.JoinedTies
import Derived.KernelRfl
namespace Go.Proofs.Ytagfalmpanlabaa
/- THE CELL 'sum', in the pinned program and in every row, IS THE sha256 OF THE DUMP (.gsa) THAT YtagfalmpanlabaaProg.lean LOADS. Nothing in Lean hashes anything: it is a label: what it is worth is what the hold of that sum in a sandbox is worth. -/
noncomputable def Try.pinned : Pinned := { name := "ytagfalmpanlabaa", sum := "c094861bc945cfc3dee8821a38c693f3b8a6c17d50365cab9c3154482fd15089", checked := Try.checked }
namespace Rows
def none {H : Type} : Left H := { results := [], args := [] }

/-- 'laws.FnExactBehind': WHATEVER THE INPUT: true; the input reads as it did. -/
def fnExactBehindSpec : ChangeSpec := { name := "fnExactBehind", fn := fun _ => fun
  | [d1, d2] => { results := [.lit (.bool true)], args := [d1, d2] }
  | _ => none }
def fnExactBehindRow : OpenClaim := { program := "ytagfalmpanlabaa", sum := "c094861bc945cfc3dee8821a38c693f3b8a6c17d50365cab9c3154482fd15089", func := "loop.example/g00684/laws.FnExactBehind", spec := "fnExactBehind", unfollowed := true, recurses := true, apart := false }
def FnExactBehindSaid : Prop := fnExactBehindRow.holds Try.pinned (OpenSpec.ofChange fnExactBehindSpec)

/-- ITS FALSE NEIGHBOUR: 'it returns false'. Refute it at one input. -/
def fnExactBehindWrong : ChangeSpec := { name := "fnExactBehind", fn := fun _ => fun
  | [d1, d2] => { results := [.lit (.bool false)], args := [d1, d2] }
  | _ => none }
def FnExactBehindWrongFalsely : Prop := fnExactBehindRow.holds Try.pinned (OpenSpec.ofChange fnExactBehindWrong)

/-- 'laws.FnExactMatchOf': WHATEVER THE INPUT: true; the input reads as it did. -/
def fnExactMatchOfSpec : ChangeSpec := { name := "fnExactMatchOf", fn := fun _ => fun
  | [d1, d2] => { results := [.lit (.bool true)], args := [d1, d2] }
  | _ => none }
def fnExactMatchOfRow : OpenClaim := { program := "ytagfalmpanlabaa", sum := "c094861bc945cfc3dee8821a38c693f3b8a6c17d50365cab9c3154482fd15089", func := "loop.example/g00684/laws.FnExactMatchOf", spec := "fnExactMatchOf", apart := false }
def FnExactMatchOfSaid : Prop := fnExactMatchOfRow.holds Try.pinned (OpenSpec.ofChange fnExactMatchOfSpec)

/-- ITS FALSE NEIGHBOUR: 'it returns false'. Refute it at one input. -/
def fnExactMatchOfWrong : ChangeSpec := { name := "fnExactMatchOf", fn := fun _ => fun
  | [d1, d2] => { results := [.lit (.bool false)], args := [d1, d2] }
  | _ => none }
def FnExactMatchOfWrongFalsely : Prop := fnExactMatchOfRow.holds Try.pinned (OpenSpec.ofChange fnExactMatchOfWrong)

/-- 'laws.FnExactJobCost': WHATEVER THE INPUT: true; the input reads as it did. -/
def fnExactJobCostSpec : ChangeSpec := { name := "fnExactJobCost", fn := fun _ => fun
  | [d] => { results := [.lit (.bool true)], args := [d] }
  | _ => none }
def fnExactJobCostRow : OpenClaim := { program := "ytagfalmpanlabaa", sum := "c094861bc945cfc3dee8821a38c693f3b8a6c17d50365cab9c3154482fd15089", func := "loop.example/g00684/laws.FnExactJobCost", spec := "fnExactJobCost", unfollowed := true, recurses := true, apart := false }
def FnExactJobCostSaid : Prop := fnExactJobCostRow.holds Try.pinned (OpenSpec.ofChange fnExactJobCostSpec)

/-- ITS FALSE NEIGHBOUR: 'it returns false'. Refute it at one input. -/
def fnExactJobCostWrong : ChangeSpec := { name := "fnExactJobCost", fn := fun _ => fun
  | [d] => { results := [.lit (.bool false)], args := [d] }
  | _ => none }
def FnExactJobCostWrongFalsely : Prop := fnExactJobCostRow.holds Try.pinned (OpenSpec.ofChange fnExactJobCostWrong)

/-- 'laws.FnExactStepBlock': WHATEVER THE INPUT: true; the input reads as it did. -/
def fnExactStepBlockSpec : ChangeSpec := { name := "fnExactStepBlock", fn := fun _ => fun
  | [d1, d2, d3, d4, d5] => { results := [.lit (.bool true)], args := [d1, d2, d3, d4, d5] }
  | _ => none }
def fnExactStepBlockRow : OpenClaim := { program := "ytagfalmpanlabaa", sum := "c094861bc945cfc3dee8821a38c693f3b8a6c17d50365cab9c3154482fd15089", func := "loop.example/g00684/laws.FnExactStepBlock", spec := "fnExactStepBlock", apart := false }
def FnExactStepBlockSaid : Prop := fnExactStepBlockRow.holds Try.pinned (OpenSpec.ofChange fnExactStepBlockSpec)

/-- ITS FALSE NEIGHBOUR: 'it returns false'. Refute it at one input. -/
def fnExactStepBlockWrong : ChangeSpec := { name := "fnExactStepBlock", fn := fun _ => fun
  | [d1, d2, d3, d4, d5] => { results := [.lit (.bool false)], args := [d1, d2, d3, d4, d5] }
  | _ => none }
def FnExactStepBlockWrongFalsely : Prop := fnExactStepBlockRow.holds Try.pinned (OpenSpec.ofChange fnExactStepBlockWrong)

/-- 'laws.FnExactTimes': WHATEVER THE INPUT: true; the input reads as it did. -/
def fnExactTimesSpec : ChangeSpec := { name := "fnExactTimes", fn := fun _ => fun
  | [d1, d2] => { results := [.lit (.bool true)], args := [d1, d2] }
  | _ => none }
def fnExactTimesRow : OpenClaim := { program := "ytagfalmpanlabaa", sum := "c094861bc945cfc3dee8821a38c693f3b8a6c17d50365cab9c3154482fd15089", func := "loop.example/g00684/laws.FnExactTimes", spec := "fnExactTimes", unfollowed := true, recurses := true, apart := false }
def FnExactTimesSaid : Prop := fnExactTimesRow.holds Try.pinned (OpenSpec.ofChange fnExactTimesSpec)

/-- ITS FALSE NEIGHBOUR: 'it returns false'. Refute it at one input. -/
def fnExactTimesWrong : ChangeSpec := { name := "fnExactTimes", fn := fun _ => fun
  | [d1, d2] => { results := [.lit (.bool false)], args := [d1, d2] }
  | _ => none }
def FnExactTimesWrongFalsely : Prop := fnExactTimesRow.holds Try.pinned (OpenSpec.ofChange fnExactTimesWrong)

/-- 'laws.FnExactSameCore': WHATEVER THE INPUT: true; the input reads as it did. -/
def fnExactSameCoreSpec : ChangeSpec := { name := "fnExactSameCore", fn := fun _ => fun
  | [d1, d2] => { results := [.lit (.bool true)], args := [d1, d2] }
  | _ => none }
def fnExactSameCoreRow : OpenClaim := { program := "ytagfalmpanlabaa", sum := "c094861bc945cfc3dee8821a38c693f3b8a6c17d50365cab9c3154482fd15089", func := "loop.example/g00684/laws.FnExactSameCore", spec := "fnExactSameCore", unfollowed := true, recurses := true, apart := false }
def FnExactSameCoreSaid : Prop := fnExactSameCoreRow.holds Try.pinned (OpenSpec.ofChange fnExactSameCoreSpec)

/-- ITS FALSE NEIGHBOUR: 'it returns false'. Refute it at one input. -/
def fnExactSameCoreWrong : ChangeSpec := { name := "fnExactSameCore", fn := fun _ => fun
  | [d1, d2] => { results := [.lit (.bool false)], args := [d1, d2] }
  | _ => none }
def FnExactSameCoreWrongFalsely : Prop := fnExactSameCoreRow.holds Try.pinned (OpenSpec.ofChange fnExactSameCoreWrong)

/-- 'laws.FnSummaries': WHATEVER THE INPUT: true; the input reads as it did. -/
def fnSummariesSpec : ChangeSpec := { name := "fnSummaries", fn := fun _ => fun
  | [d1, d2] => { results := [.lit (.bool true)], args := [d1, d2] }
  | _ => none }
def fnSummariesRow : OpenClaim := { program := "ytagfalmpanlabaa", sum := "c094861bc945cfc3dee8821a38c693f3b8a6c17d50365cab9c3154482fd15089", func := "loop.example/g00684/laws.FnSummaries", spec := "fnSummaries", unfollowed := true, recurses := true, apart := false }
def FnSummariesSaid : Prop := fnSummariesRow.holds Try.pinned (OpenSpec.ofChange fnSummariesSpec)

/-- ITS FALSE NEIGHBOUR: 'it returns false'. Refute it at one input. -/
def fnSummariesWrong : ChangeSpec := { name := "fnSummaries", fn := fun _ => fun
  | [d1, d2] => { results := [.lit (.bool false)], args := [d1, d2] }
  | _ => none }
def FnSummariesWrongFalsely : Prop := fnSummariesRow.holds Try.pinned (OpenSpec.ofChange fnSummariesWrong)

/-- 'laws.FnExactCodeText': WHATEVER THE INPUT: true; the input reads as it did. -/
def fnExactCodeTextSpec : ChangeSpec := { name := "fnExactCodeText", fn := fun _ => fun
  | [d] => { results := [.lit (.bool true)], args := [d] }
  | _ => none }
def fnExactCodeTextRow : OpenClaim := { program := "ytagfalmpanlabaa", sum := "c094861bc945cfc3dee8821a38c693f3b8a6c17d50365cab9c3154482fd15089", func := "loop.example/g00684/laws.FnExactCodeText", spec := "fnExactCodeText", inPlace := ["internal/abi.NoEscape"], unfollowed := true, recurses := true, apart := false }
def FnExactCodeTextSaid : Prop := fnExactCodeTextRow.holds Try.pinned (OpenSpec.ofChange fnExactCodeTextSpec)

/-- ITS FALSE NEIGHBOUR: 'it returns false'. Refute it at one input. -/
def fnExactCodeTextWrong : ChangeSpec := { name := "fnExactCodeText", fn := fun _ => fun
  | [d] => { results := [.lit (.bool false)], args := [d] }
  | _ => none }
def FnExactCodeTextWrongFalsely : Prop := fnExactCodeTextRow.holds Try.pinned (OpenSpec.ofChange fnExactCodeTextWrong)

/- THE SECOND FORM. 'bulk': how many values and letters a reading holds, each counted each time it is reached (what is shared counts as often as it is met; a slice's spare places count too). A statement '..UptoSaid' is the law's where the arguments, and the package variables that the reading takes, are together of bulk at most 1048576: NARROWER than '..Said'. Prove '..Said' where nothing that the law and all that it calls make is longer than what came in: it says more and counts as full. Else prove '..UptoSaid'. A law counts once. -/
mutual
def uptoBulk {H : Type} : DataW H → Nat
  | .lit (.string bytes) => bytes.length + 1
  | .lit _ => 1
  | .nil => 1
  | .ptr d => uptoBulk d + 1
  | .slice elems spare => uptoBulkAll elems + uptoBulkAll spare + 1
  | .agg parts => uptoBulkAll parts + 1
  | .iface _ d => uptoBulk d + 1
  | .map entries => uptoBulkEntries entries + 1
  | .held _ => 1
def uptoBulkAll {H : Type} : List (DataW H) → Nat
  | [] => 0
  | d :: r => uptoBulk d + uptoBulkAll r
def uptoBulkEntries {H : Type} : List (Lit × DataW H) → Nat
  | [] => 0
  | x :: r => uptoBulkEntry x + uptoBulkEntries r
def uptoBulkEntry {H : Type} : Lit × DataW H → Nat
  | (.string bytes, d) => bytes.length + uptoBulk d + 1
  | (_, d) => uptoBulk d + 1
 end
def uptoSmall : (H : Type) → List (DataW H) → Bool := fun _ ds => decide (uptoBulkAll ds ≤ 1048576)
def OpenSpec.upto (s : _root_.Go.ChangeSpec) : _root_.Go.OpenSpec := { _root_.Go.OpenSpec.ofChange s with cond := some uptoSmall }

/-- 'laws.FnExactBehind', WHERE WHAT IT READS IS OF BULK AT MOST 1048576: true; the input reads as it did. -/
def fnExactBehindUptoRow : OpenClaim := { program := "ytagfalmpanlabaa", sum := "c094861bc945cfc3dee8821a38c693f3b8a6c17d50365cab9c3154482fd15089", func := "loop.example/g00684/laws.FnExactBehind", spec := "fnExactBehind", unfollowed := true, recurses := true, apart := false, narrowed := true }
def FnExactBehindUptoSaid : Prop := fnExactBehindUptoRow.holds Try.pinned (OpenSpec.upto fnExactBehindSpec)

/-- 'laws.FnExactMatchOf', WHERE WHAT IT READS IS OF BULK AT MOST 1048576: true; the input reads as it did. -/
def fnExactMatchOfUptoRow : OpenClaim := { program := "ytagfalmpanlabaa", sum := "c094861bc945cfc3dee8821a38c693f3b8a6c17d50365cab9c3154482fd15089", func := "loop.example/g00684/laws.FnExactMatchOf", spec := "fnExactMatchOf", apart := false, narrowed := true }
def FnExactMatchOfUptoSaid : Prop := fnExactMatchOfUptoRow.holds Try.pinned (OpenSpec.upto fnExactMatchOfSpec)

/-- 'laws.FnExactJobCost', WHERE WHAT IT READS IS OF BULK AT MOST 1048576: true; the input reads as it did. -/
def fnExactJobCostUptoRow : OpenClaim := { program := "ytagfalmpanlabaa", sum := "c094861bc945cfc3dee8821a38c693f3b8a6c17d50365cab9c3154482fd15089", func := "loop.example/g00684/laws.FnExactJobCost", spec := "fnExactJobCost", unfollowed := true, recurses := true, apart := false, narrowed := true }
def FnExactJobCostUptoSaid : Prop := fnExactJobCostUptoRow.holds Try.pinned (OpenSpec.upto fnExactJobCostSpec)

/-- 'laws.FnExactStepBlock', WHERE WHAT IT READS IS OF BULK AT MOST 1048576: true; the input reads as it did. -/
def fnExactStepBlockUptoRow : OpenClaim := { program := "ytagfalmpanlabaa", sum := "c094861bc945cfc3dee8821a38c693f3b8a6c17d50365cab9c3154482fd15089", func := "loop.example/g00684/laws.FnExactStepBlock", spec := "fnExactStepBlock", apart := false, narrowed := true }
def FnExactStepBlockUptoSaid : Prop := fnExactStepBlockUptoRow.holds Try.pinned (OpenSpec.upto fnExactStepBlockSpec)

/-- 'laws.FnExactTimes', WHERE WHAT IT READS IS OF BULK AT MOST 1048576: true; the input reads as it did. -/
def fnExactTimesUptoRow : OpenClaim := { program := "ytagfalmpanlabaa", sum := "c094861bc945cfc3dee8821a38c693f3b8a6c17d50365cab9c3154482fd15089", func := "loop.example/g00684/laws.FnExactTimes", spec := "fnExactTimes", unfollowed := true, recurses := true, apart := false, narrowed := true }
def FnExactTimesUptoSaid : Prop := fnExactTimesUptoRow.holds Try.pinned (OpenSpec.upto fnExactTimesSpec)

/-- 'laws.FnExactSameCore', WHERE WHAT IT READS IS OF BULK AT MOST 1048576: true; the input reads as it did. -/
def fnExactSameCoreUptoRow : OpenClaim := { program := "ytagfalmpanlabaa", sum := "c094861bc945cfc3dee8821a38c693f3b8a6c17d50365cab9c3154482fd15089", func := "loop.example/g00684/laws.FnExactSameCore", spec := "fnExactSameCore", unfollowed := true, recurses := true, apart := false, narrowed := true }
def FnExactSameCoreUptoSaid : Prop := fnExactSameCoreUptoRow.holds Try.pinned (OpenSpec.upto fnExactSameCoreSpec)

/-- 'laws.FnSummaries', WHERE WHAT IT READS IS OF BULK AT MOST 1048576: true; the input reads as it did. -/
def fnSummariesUptoRow : OpenClaim := { program := "ytagfalmpanlabaa", sum := "c094861bc945cfc3dee8821a38c693f3b8a6c17d50365cab9c3154482fd15089", func := "loop.example/g00684/laws.FnSummaries", spec := "fnSummaries", unfollowed := true, recurses := true, apart := false, narrowed := true }
def FnSummariesUptoSaid : Prop := fnSummariesUptoRow.holds Try.pinned (OpenSpec.upto fnSummariesSpec)

/-- 'laws.FnExactCodeText', WHERE WHAT IT READS IS OF BULK AT MOST 1048576: true; the input reads as it did. -/
def fnExactCodeTextUptoRow : OpenClaim := { program := "ytagfalmpanlabaa", sum := "c094861bc945cfc3dee8821a38c693f3b8a6c17d50365cab9c3154482fd15089", func := "loop.example/g00684/laws.FnExactCodeText", spec := "fnExactCodeText", inPlace := ["internal/abi.NoEscape"], unfollowed := true, recurses := true, apart := false, narrowed := true }
def FnExactCodeTextUptoSaid : Prop := fnExactCodeTextUptoRow.holds Try.pinned (OpenSpec.upto fnExactCodeTextSpec)

end Rows
end Go.Proofs.Ytagfalmpanlabaa
