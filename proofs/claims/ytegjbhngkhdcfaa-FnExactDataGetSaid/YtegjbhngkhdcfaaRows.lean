/-
  No cell of these rows narrows 'for every input' (looked for: loops, veiled, ifaces, maps, wideKeys, modest, calm, conditions, laid).
  DERIVED. THE GIVEN ROWS OF THIS SEAT. 14 by the template 'for every input the law returns true; each argument reads behind the call as it read before'; 0 by the template 'total and deterministic' (their statements: YtegjbhngkhdcfaaTotals.lean).
  GIVEN WITH THE SEED: the statements are not yours to turn. If you find one false, say at which input.
  Laid BY PROGRAM, IN A SANDBOX (cutbox-rows.mjs): the forced cells as the released guide's own fill.sh prints them over the translation 8cb987dfa5dc82c3… (all of the seat's roots in one cut). By AI agents, Wed Nov 11 2026. No macro, syntax, notation, axiom, sorry.
-/
import Derived.Test.YtegjbhngkhdcfaaChecked
import GoSem.Claim
import GoSem.ClaimJoined
import GoSem.ClaimMapViews
import Derived.JoinedTies
import Derived.KernelRfl
namespace Go.Proofs.Ytegjbhngkhdcfaa
/- THE CELL 'sum', in the pinned program and in every row, IS THE sha256 OF THE DUMP (.gsa) THAT YtegjbhngkhdcfaaProg.lean LOADS. Nothing in Lean hashes anything: it is a label: what it is worth is what the hold of that sum in a sandbox is worth. -/
noncomputable def Try.pinned : Pinned := { name := "ytegjbhngkhdcfaa", sum := "8cb987dfa5dc82c3ea81bbb4a7f8b7686bfe99b73665faebf522e1e807053950", checked := Try.checked }
namespace Rows
def none {H : Type} : Left H := { results := [], args := [] }

/-- 'laws.FnInitGet': WHATEVER THE INPUT: true; the input reads as it did. -/
def fnInitGetSpec : ChangeSpec := { name := "fnInitGet", fn := fun _ => fun
  | [d] => { results := [.lit (.bool true)], args := [d] }
  | _ => none }
def fnInitGetRow : OpenClaim := { program := "ytegjbhngkhdcfaa", sum := "8cb987dfa5dc82c3ea81bbb4a7f8b7686bfe99b73665faebf522e1e807053950", func := "loop.example/capturemonitor/laws.FnInitGet", spec := "fnInitGet", apart := false }
def FnInitGetSaid : Prop := fnInitGetRow.holds Try.pinned (OpenSpec.ofChange fnInitGetSpec)

/-- ITS FALSE NEIGHBOUR: 'it returns false'. Refute it at one input. -/
def fnInitGetWrong : ChangeSpec := { name := "fnInitGet", fn := fun _ => fun
  | [d] => { results := [.lit (.bool false)], args := [d] }
  | _ => none }
def FnInitGetWrongFalsely : Prop := fnInitGetRow.holds Try.pinned (OpenSpec.ofChange fnInitGetWrong)

/-- 'laws.FnExactInitPut': WHATEVER THE INPUT: true; the input reads as it did. -/
def fnExactInitPutSpec : ChangeSpec := { name := "fnExactInitPut", fn := fun _ => fun
  | [d1, d2] => { results := [.lit (.bool true)], args := [d1, d2] }
  | _ => none }
def fnExactInitPutRow : OpenClaim := { program := "ytegjbhngkhdcfaa", sum := "8cb987dfa5dc82c3ea81bbb4a7f8b7686bfe99b73665faebf522e1e807053950", func := "loop.example/capturemonitor/laws.FnExactInitPut", spec := "fnExactInitPut", apart := false }
def FnExactInitPutSaid : Prop := fnExactInitPutRow.holds Try.pinned (OpenSpec.ofChange fnExactInitPutSpec)

/-- ITS FALSE NEIGHBOUR: 'it returns false'. Refute it at one input. -/
def fnExactInitPutWrong : ChangeSpec := { name := "fnExactInitPut", fn := fun _ => fun
  | [d1, d2] => { results := [.lit (.bool false)], args := [d1, d2] }
  | _ => none }
def FnExactInitPutWrongFalsely : Prop := fnExactInitPutRow.holds Try.pinned (OpenSpec.ofChange fnExactInitPutWrong)

/-- 'laws.FnExactInitGet': WHATEVER THE INPUT: true; the input reads as it did. -/
def fnExactInitGetSpec : ChangeSpec := { name := "fnExactInitGet", fn := fun _ => fun
  | [d] => { results := [.lit (.bool true)], args := [d] }
  | _ => none }
def fnExactInitGetRow : OpenClaim := { program := "ytegjbhngkhdcfaa", sum := "8cb987dfa5dc82c3ea81bbb4a7f8b7686bfe99b73665faebf522e1e807053950", func := "loop.example/capturemonitor/laws.FnExactInitGet", spec := "fnExactInitGet", apart := false }
def FnExactInitGetSaid : Prop := fnExactInitGetRow.holds Try.pinned (OpenSpec.ofChange fnExactInitGetSpec)

/-- ITS FALSE NEIGHBOUR: 'it returns false'. Refute it at one input. -/
def fnExactInitGetWrong : ChangeSpec := { name := "fnExactInitGet", fn := fun _ => fun
  | [d] => { results := [.lit (.bool false)], args := [d] }
  | _ => none }
def FnExactInitGetWrongFalsely : Prop := fnExactInitGetRow.holds Try.pinned (OpenSpec.ofChange fnExactInitGetWrong)

/-- 'laws.FnExactDataGet': WHATEVER THE INPUT: true; the input reads as it did. -/
def fnExactDataGetSpec : ChangeSpec := { name := "fnExactDataGet", fn := fun _ => fun
  | [d] => { results := [.lit (.bool true)], args := [d] }
  | _ => none }
def fnExactDataGetRow : OpenClaim := { program := "ytegjbhngkhdcfaa", sum := "8cb987dfa5dc82c3ea81bbb4a7f8b7686bfe99b73665faebf522e1e807053950", func := "loop.example/capturemonitor/laws.FnExactDataGet", spec := "fnExactDataGet", apart := false }
def FnExactDataGetSaid : Prop := fnExactDataGetRow.holds Try.pinned (OpenSpec.ofChange fnExactDataGetSpec)

/-- ITS FALSE NEIGHBOUR: 'it returns false'. Refute it at one input. -/
def fnExactDataGetWrong : ChangeSpec := { name := "fnExactDataGet", fn := fun _ => fun
  | [d] => { results := [.lit (.bool false)], args := [d] }
  | _ => none }
def FnExactDataGetWrongFalsely : Prop := fnExactDataGetRow.holds Try.pinned (OpenSpec.ofChange fnExactDataGetWrong)

/-- 'laws.FnExactDataPut': WHATEVER THE INPUT: true; the input reads as it did. -/
def fnExactDataPutSpec : ChangeSpec := { name := "fnExactDataPut", fn := fun _ => fun
  | [d] => { results := [.lit (.bool true)], args := [d] }
  | _ => none }
def fnExactDataPutRow : OpenClaim := { program := "ytegjbhngkhdcfaa", sum := "8cb987dfa5dc82c3ea81bbb4a7f8b7686bfe99b73665faebf522e1e807053950", func := "loop.example/capturemonitor/laws.FnExactDataPut", spec := "fnExactDataPut", apart := false }
def FnExactDataPutSaid : Prop := fnExactDataPutRow.holds Try.pinned (OpenSpec.ofChange fnExactDataPutSpec)

/-- ITS FALSE NEIGHBOUR: 'it returns false'. Refute it at one input. -/
def fnExactDataPutWrong : ChangeSpec := { name := "fnExactDataPut", fn := fun _ => fun
  | [d] => { results := [.lit (.bool false)], args := [d] }
  | _ => none }
def FnExactDataPutWrongFalsely : Prop := fnExactDataPutRow.holds Try.pinned (OpenSpec.ofChange fnExactDataPutWrong)

/-- 'laws.FnInitPutBoth': WHATEVER THE INPUT: true; the input reads as it did. -/
def fnInitPutBothSpec : ChangeSpec := { name := "fnInitPutBoth", fn := fun _ => fun
  | [d] => { results := [.lit (.bool true)], args := [d] }
  | _ => none }
def fnInitPutBothRow : OpenClaim := { program := "ytegjbhngkhdcfaa", sum := "8cb987dfa5dc82c3ea81bbb4a7f8b7686bfe99b73665faebf522e1e807053950", func := "loop.example/capturemonitor/laws.FnInitPutBoth", spec := "fnInitPutBoth", apart := false }
def FnInitPutBothSaid : Prop := fnInitPutBothRow.holds Try.pinned (OpenSpec.ofChange fnInitPutBothSpec)

/-- ITS FALSE NEIGHBOUR: 'it returns false'. Refute it at one input. -/
def fnInitPutBothWrong : ChangeSpec := { name := "fnInitPutBoth", fn := fun _ => fun
  | [d] => { results := [.lit (.bool false)], args := [d] }
  | _ => none }
def FnInitPutBothWrongFalsely : Prop := fnInitPutBothRow.holds Try.pinned (OpenSpec.ofChange fnInitPutBothWrong)

/-- 'laws.FnInitPutRange': WHATEVER THE INPUT: true; the input reads as it did. -/
def fnInitPutRangeSpec : ChangeSpec := { name := "fnInitPutRange", fn := fun _ => fun
  | [d] => { results := [.lit (.bool true)], args := [d] }
  | _ => none }
def fnInitPutRangeRow : OpenClaim := { program := "ytegjbhngkhdcfaa", sum := "8cb987dfa5dc82c3ea81bbb4a7f8b7686bfe99b73665faebf522e1e807053950", func := "loop.example/capturemonitor/laws.FnInitPutRange", spec := "fnInitPutRange", apart := false }
def FnInitPutRangeSaid : Prop := fnInitPutRangeRow.holds Try.pinned (OpenSpec.ofChange fnInitPutRangeSpec)

/-- ITS FALSE NEIGHBOUR: 'it returns false'. Refute it at one input. -/
def fnInitPutRangeWrong : ChangeSpec := { name := "fnInitPutRange", fn := fun _ => fun
  | [d] => { results := [.lit (.bool false)], args := [d] }
  | _ => none }
def FnInitPutRangeWrongFalsely : Prop := fnInitPutRangeRow.holds Try.pinned (OpenSpec.ofChange fnInitPutRangeWrong)

/-- 'laws.FnDataPutRange': WHATEVER THE INPUT: true; the input reads as it did. -/
def fnDataPutRangeSpec : ChangeSpec := { name := "fnDataPutRange", fn := fun _ => fun
  | [d] => { results := [.lit (.bool true)], args := [d] }
  | _ => none }
def fnDataPutRangeRow : OpenClaim := { program := "ytegjbhngkhdcfaa", sum := "8cb987dfa5dc82c3ea81bbb4a7f8b7686bfe99b73665faebf522e1e807053950", func := "loop.example/capturemonitor/laws.FnDataPutRange", spec := "fnDataPutRange", apart := false }
def FnDataPutRangeSaid : Prop := fnDataPutRangeRow.holds Try.pinned (OpenSpec.ofChange fnDataPutRangeSpec)

/-- ITS FALSE NEIGHBOUR: 'it returns false'. Refute it at one input. -/
def fnDataPutRangeWrong : ChangeSpec := { name := "fnDataPutRange", fn := fun _ => fun
  | [d] => { results := [.lit (.bool false)], args := [d] }
  | _ => none }
def FnDataPutRangeWrongFalsely : Prop := fnDataPutRangeRow.holds Try.pinned (OpenSpec.ofChange fnDataPutRangeWrong)

/-- 'laws.FnInitPut': WHATEVER THE INPUT: true; the input reads as it did. -/
def fnInitPutSpec : ChangeSpec := { name := "fnInitPut", fn := fun _ => fun
  | [d] => { results := [.lit (.bool true)], args := [d] }
  | _ => none }
def fnInitPutRow : OpenClaim := { program := "ytegjbhngkhdcfaa", sum := "8cb987dfa5dc82c3ea81bbb4a7f8b7686bfe99b73665faebf522e1e807053950", func := "loop.example/capturemonitor/laws.FnInitPut", spec := "fnInitPut", apart := false }
def FnInitPutSaid : Prop := fnInitPutRow.holds Try.pinned (OpenSpec.ofChange fnInitPutSpec)

/-- ITS FALSE NEIGHBOUR: 'it returns false'. Refute it at one input. -/
def fnInitPutWrong : ChangeSpec := { name := "fnInitPut", fn := fun _ => fun
  | [d] => { results := [.lit (.bool false)], args := [d] }
  | _ => none }
def FnInitPutWrongFalsely : Prop := fnInitPutRow.holds Try.pinned (OpenSpec.ofChange fnInitPutWrong)

/-- 'laws.FnDataPut': WHATEVER THE INPUT: true; the input reads as it did. -/
def fnDataPutSpec : ChangeSpec := { name := "fnDataPut", fn := fun _ => fun
  | [d] => { results := [.lit (.bool true)], args := [d] }
  | _ => none }
def fnDataPutRow : OpenClaim := { program := "ytegjbhngkhdcfaa", sum := "8cb987dfa5dc82c3ea81bbb4a7f8b7686bfe99b73665faebf522e1e807053950", func := "loop.example/capturemonitor/laws.FnDataPut", spec := "fnDataPut", apart := false }
def FnDataPutSaid : Prop := fnDataPutRow.holds Try.pinned (OpenSpec.ofChange fnDataPutSpec)

/-- ITS FALSE NEIGHBOUR: 'it returns false'. Refute it at one input. -/
def fnDataPutWrong : ChangeSpec := { name := "fnDataPut", fn := fun _ => fun
  | [d] => { results := [.lit (.bool false)], args := [d] }
  | _ => none }
def FnDataPutWrongFalsely : Prop := fnDataPutRow.holds Try.pinned (OpenSpec.ofChange fnDataPutWrong)

/-- 'laws.FnDataFlags': WHATEVER THE INPUT: true; the input reads as it did. -/
def fnDataFlagsSpec : ChangeSpec := { name := "fnDataFlags", fn := fun _ => fun
  | [d] => { results := [.lit (.bool true)], args := [d] }
  | _ => none }
def fnDataFlagsRow : OpenClaim := { program := "ytegjbhngkhdcfaa", sum := "8cb987dfa5dc82c3ea81bbb4a7f8b7686bfe99b73665faebf522e1e807053950", func := "loop.example/capturemonitor/laws.FnDataFlags", spec := "fnDataFlags", apart := false }
def FnDataFlagsSaid : Prop := fnDataFlagsRow.holds Try.pinned (OpenSpec.ofChange fnDataFlagsSpec)

/-- ITS FALSE NEIGHBOUR: 'it returns false'. Refute it at one input. -/
def fnDataFlagsWrong : ChangeSpec := { name := "fnDataFlags", fn := fun _ => fun
  | [d] => { results := [.lit (.bool false)], args := [d] }
  | _ => none }
def FnDataFlagsWrongFalsely : Prop := fnDataFlagsRow.holds Try.pinned (OpenSpec.ofChange fnDataFlagsWrong)

/-- 'laws.FnDataKind': WHATEVER THE INPUT: true; the input reads as it did. -/
def fnDataKindSpec : ChangeSpec := { name := "fnDataKind", fn := fun _ => fun
  | [d] => { results := [.lit (.bool true)], args := [d] }
  | _ => none }
def fnDataKindRow : OpenClaim := { program := "ytegjbhngkhdcfaa", sum := "8cb987dfa5dc82c3ea81bbb4a7f8b7686bfe99b73665faebf522e1e807053950", func := "loop.example/capturemonitor/laws.FnDataKind", spec := "fnDataKind", apart := false }
def FnDataKindSaid : Prop := fnDataKindRow.holds Try.pinned (OpenSpec.ofChange fnDataKindSpec)

/-- ITS FALSE NEIGHBOUR: 'it returns false'. Refute it at one input. -/
def fnDataKindWrong : ChangeSpec := { name := "fnDataKind", fn := fun _ => fun
  | [d] => { results := [.lit (.bool false)], args := [d] }
  | _ => none }
def FnDataKindWrongFalsely : Prop := fnDataKindRow.holds Try.pinned (OpenSpec.ofChange fnDataKindWrong)

/-- 'laws.FnInitGetOther': WHATEVER THE INPUT: true; the input reads as it did. -/
def fnInitGetOtherSpec : ChangeSpec := { name := "fnInitGetOther", fn := fun _ => fun
  | [d] => { results := [.lit (.bool true)], args := [d] }
  | _ => none }
def fnInitGetOtherRow : OpenClaim := { program := "ytegjbhngkhdcfaa", sum := "8cb987dfa5dc82c3ea81bbb4a7f8b7686bfe99b73665faebf522e1e807053950", func := "loop.example/capturemonitor/laws.FnInitGetOther", spec := "fnInitGetOther", apart := false }
def FnInitGetOtherSaid : Prop := fnInitGetOtherRow.holds Try.pinned (OpenSpec.ofChange fnInitGetOtherSpec)

/-- ITS FALSE NEIGHBOUR: 'it returns false'. Refute it at one input. -/
def fnInitGetOtherWrong : ChangeSpec := { name := "fnInitGetOther", fn := fun _ => fun
  | [d] => { results := [.lit (.bool false)], args := [d] }
  | _ => none }
def FnInitGetOtherWrongFalsely : Prop := fnInitGetOtherRow.holds Try.pinned (OpenSpec.ofChange fnInitGetOtherWrong)

/-- 'laws.FnDataGet': WHATEVER THE INPUT: true; the input reads as it did. -/
def fnDataGetSpec : ChangeSpec := { name := "fnDataGet", fn := fun _ => fun
  | [d] => { results := [.lit (.bool true)], args := [d] }
  | _ => none }
def fnDataGetRow : OpenClaim := { program := "ytegjbhngkhdcfaa", sum := "8cb987dfa5dc82c3ea81bbb4a7f8b7686bfe99b73665faebf522e1e807053950", func := "loop.example/capturemonitor/laws.FnDataGet", spec := "fnDataGet", apart := false }
def FnDataGetSaid : Prop := fnDataGetRow.holds Try.pinned (OpenSpec.ofChange fnDataGetSpec)

/-- ITS FALSE NEIGHBOUR: 'it returns false'. Refute it at one input. -/
def fnDataGetWrong : ChangeSpec := { name := "fnDataGet", fn := fun _ => fun
  | [d] => { results := [.lit (.bool false)], args := [d] }
  | _ => none }
def FnDataGetWrongFalsely : Prop := fnDataGetRow.holds Try.pinned (OpenSpec.ofChange fnDataGetWrong)

/- THE SECOND FORM. 'bulk': how many values and letters a reading holds, each counted each time it is reached (what is shared counts as often as it is met; a slice's spare places count too). A statement '..UptoSaid' is the law's where the arguments, and the package variables that the reading takes, are together of bulk at most 1048576: NARROWER than '..Said'. Prove '..Said' where nothing that the law and all that it calls make is longer than what came in: it says more and counts as full. Else prove '..UptoSaid'. A law counts once. -/
mutual
def uptoBulk {H : Type} : DataW H → Nat
  | .lit (.string bytes) => bytes.length + 1
  | .lit _ => 1
  | .nil => 1
  | .ptr d => uptoBulk d + 1
  | .slice elems spare => uptoBulkAll elems + uptoBulkAll spare + 1
  | .agg parts => uptoBulkAll parts + 1
  | .iface _ d => uptoBulk d + 1
  | .map entries => uptoBulkEntries entries + 1
  | .held _ => 1
def uptoBulkAll {H : Type} : List (DataW H) → Nat
  | [] => 0
  | d :: r => uptoBulk d + uptoBulkAll r
def uptoBulkEntries {H : Type} : List (Lit × DataW H) → Nat
  | [] => 0
  | x :: r => uptoBulkEntry x + uptoBulkEntries r
def uptoBulkEntry {H : Type} : Lit × DataW H → Nat
  | (.string bytes, d) => bytes.length + uptoBulk d + 1
  | (_, d) => uptoBulk d + 1
 end
def uptoSmall : (H : Type) → List (DataW H) → Bool := fun _ ds => decide (uptoBulkAll ds ≤ 1048576)
def OpenSpec.upto (s : _root_.Go.ChangeSpec) : _root_.Go.OpenSpec := { _root_.Go.OpenSpec.ofChange s with cond := some uptoSmall }

/-- 'laws.FnInitGet', WHERE WHAT IT READS IS OF BULK AT MOST 1048576: true; the input reads as it did. -/
def fnInitGetUptoRow : OpenClaim := { program := "ytegjbhngkhdcfaa", sum := "8cb987dfa5dc82c3ea81bbb4a7f8b7686bfe99b73665faebf522e1e807053950", func := "loop.example/capturemonitor/laws.FnInitGet", spec := "fnInitGet", apart := false, narrowed := true }
def FnInitGetUptoSaid : Prop := fnInitGetUptoRow.holds Try.pinned (OpenSpec.upto fnInitGetSpec)

/-- 'laws.FnExactInitPut', WHERE WHAT IT READS IS OF BULK AT MOST 1048576: true; the input reads as it did. -/
def fnExactInitPutUptoRow : OpenClaim := { program := "ytegjbhngkhdcfaa", sum := "8cb987dfa5dc82c3ea81bbb4a7f8b7686bfe99b73665faebf522e1e807053950", func := "loop.example/capturemonitor/laws.FnExactInitPut", spec := "fnExactInitPut", apart := false, narrowed := true }
def FnExactInitPutUptoSaid : Prop := fnExactInitPutUptoRow.holds Try.pinned (OpenSpec.upto fnExactInitPutSpec)

/-- 'laws.FnExactInitGet', WHERE WHAT IT READS IS OF BULK AT MOST 1048576: true; the input reads as it did. -/
def fnExactInitGetUptoRow : OpenClaim := { program := "ytegjbhngkhdcfaa", sum := "8cb987dfa5dc82c3ea81bbb4a7f8b7686bfe99b73665faebf522e1e807053950", func := "loop.example/capturemonitor/laws.FnExactInitGet", spec := "fnExactInitGet", apart := false, narrowed := true }
def FnExactInitGetUptoSaid : Prop := fnExactInitGetUptoRow.holds Try.pinned (OpenSpec.upto fnExactInitGetSpec)

/-- 'laws.FnExactDataGet', WHERE WHAT IT READS IS OF BULK AT MOST 1048576: true; the input reads as it did. -/
def fnExactDataGetUptoRow : OpenClaim := { program := "ytegjbhngkhdcfaa", sum := "8cb987dfa5dc82c3ea81bbb4a7f8b7686bfe99b73665faebf522e1e807053950", func := "loop.example/capturemonitor/laws.FnExactDataGet", spec := "fnExactDataGet", apart := false, narrowed := true }
def FnExactDataGetUptoSaid : Prop := fnExactDataGetUptoRow.holds Try.pinned (OpenSpec.upto fnExactDataGetSpec)

/-- 'laws.FnExactDataPut', WHERE WHAT IT READS IS OF BULK AT MOST 1048576: true; the input reads as it did. -/
def fnExactDataPutUptoRow : OpenClaim := { program := "ytegjbhngkhdcfaa", sum := "8cb987dfa5dc82c3ea81bbb4a7f8b7686bfe99b73665faebf522e1e807053950", func := "loop.example/capturemonitor/laws.FnExactDataPut", spec := "fnExactDataPut", apart := false, narrowed := true }
def FnExactDataPutUptoSaid : Prop := fnExactDataPutUptoRow.holds Try.pinned (OpenSpec.upto fnExactDataPutSpec)

/-- 'laws.FnInitPutBoth', WHERE WHAT IT READS IS OF BULK AT MOST 1048576: true; the input reads as it did. -/
def fnInitPutBothUptoRow : OpenClaim := { program := "ytegjbhngkhdcfaa", sum := "8cb987dfa5dc82c3ea81bbb4a7f8b7686bfe99b73665faebf522e1e807053950", func := "loop.example/capturemonitor/laws.FnInitPutBoth", spec := "fnInitPutBoth", apart := false, narrowed := true }
def FnInitPutBothUptoSaid : Prop := fnInitPutBothUptoRow.holds Try.pinned (OpenSpec.upto fnInitPutBothSpec)

/-- 'laws.FnInitPutRange', WHERE WHAT IT READS IS OF BULK AT MOST 1048576: true; the input reads as it did. -/
def fnInitPutRangeUptoRow : OpenClaim := { program := "ytegjbhngkhdcfaa", sum := "8cb987dfa5dc82c3ea81bbb4a7f8b7686bfe99b73665faebf522e1e807053950", func := "loop.example/capturemonitor/laws.FnInitPutRange", spec := "fnInitPutRange", apart := false, narrowed := true }
def FnInitPutRangeUptoSaid : Prop := fnInitPutRangeUptoRow.holds Try.pinned (OpenSpec.upto fnInitPutRangeSpec)

/-- 'laws.FnDataPutRange', WHERE WHAT IT READS IS OF BULK AT MOST 1048576: true; the input reads as it did. -/
def fnDataPutRangeUptoRow : OpenClaim := { program := "ytegjbhngkhdcfaa", sum := "8cb987dfa5dc82c3ea81bbb4a7f8b7686bfe99b73665faebf522e1e807053950", func := "loop.example/capturemonitor/laws.FnDataPutRange", spec := "fnDataPutRange", apart := false, narrowed := true }
def FnDataPutRangeUptoSaid : Prop := fnDataPutRangeUptoRow.holds Try.pinned (OpenSpec.upto fnDataPutRangeSpec)

/-- 'laws.FnInitPut', WHERE WHAT IT READS IS OF BULK AT MOST 1048576: true; the input reads as it did. -/
def fnInitPutUptoRow : OpenClaim := { program := "ytegjbhngkhdcfaa", sum := "8cb987dfa5dc82c3ea81bbb4a7f8b7686bfe99b73665faebf522e1e807053950", func := "loop.example/capturemonitor/laws.FnInitPut", spec := "fnInitPut", apart := false, narrowed := true }
def FnInitPutUptoSaid : Prop := fnInitPutUptoRow.holds Try.pinned (OpenSpec.upto fnInitPutSpec)

/-- 'laws.FnDataPut', WHERE WHAT IT READS IS OF BULK AT MOST 1048576: true; the input reads as it did. -/
def fnDataPutUptoRow : OpenClaim := { program := "ytegjbhngkhdcfaa", sum := "8cb987dfa5dc82c3ea81bbb4a7f8b7686bfe99b73665faebf522e1e807053950", func := "loop.example/capturemonitor/laws.FnDataPut", spec := "fnDataPut", apart := false, narrowed := true }
def FnDataPutUptoSaid : Prop := fnDataPutUptoRow.holds Try.pinned (OpenSpec.upto fnDataPutSpec)

/-- 'laws.FnDataFlags', WHERE WHAT IT READS IS OF BULK AT MOST 1048576: true; the input reads as it did. -/
def fnDataFlagsUptoRow : OpenClaim := { program := "ytegjbhngkhdcfaa", sum := "8cb987dfa5dc82c3ea81bbb4a7f8b7686bfe99b73665faebf522e1e807053950", func := "loop.example/capturemonitor/laws.FnDataFlags", spec := "fnDataFlags", apart := false, narrowed := true }
def FnDataFlagsUptoSaid : Prop := fnDataFlagsUptoRow.holds Try.pinned (OpenSpec.upto fnDataFlagsSpec)

/-- 'laws.FnDataKind', WHERE WHAT IT READS IS OF BULK AT MOST 1048576: true; the input reads as it did. -/
def fnDataKindUptoRow : OpenClaim := { program := "ytegjbhngkhdcfaa", sum := "8cb987dfa5dc82c3ea81bbb4a7f8b7686bfe99b73665faebf522e1e807053950", func := "loop.example/capturemonitor/laws.FnDataKind", spec := "fnDataKind", apart := false, narrowed := true }
def FnDataKindUptoSaid : Prop := fnDataKindUptoRow.holds Try.pinned (OpenSpec.upto fnDataKindSpec)

/-- 'laws.FnInitGetOther', WHERE WHAT IT READS IS OF BULK AT MOST 1048576: true; the input reads as it did. -/
def fnInitGetOtherUptoRow : OpenClaim := { program := "ytegjbhngkhdcfaa", sum := "8cb987dfa5dc82c3ea81bbb4a7f8b7686bfe99b73665faebf522e1e807053950", func := "loop.example/capturemonitor/laws.FnInitGetOther", spec := "fnInitGetOther", apart := false, narrowed := true }
def FnInitGetOtherUptoSaid : Prop := fnInitGetOtherUptoRow.holds Try.pinned (OpenSpec.upto fnInitGetOtherSpec)

/-- 'laws.FnDataGet', WHERE WHAT IT READS IS OF BULK AT MOST 1048576: true; the input reads as it did. -/
def fnDataGetUptoRow : OpenClaim := { program := "ytegjbhngkhdcfaa", sum := "8cb987dfa5dc82c3ea81bbb4a7f8b7686bfe99b73665faebf522e1e807053950", func := "loop.example/capturemonitor/laws.FnDataGet", spec := "fnDataGet", apart := false, narrowed := true }
def FnDataGetUptoSaid : Prop := fnDataGetUptoRow.holds Try.pinned (OpenSpec.upto fnDataGetSpec)

end Rows
end Go.Proofs.Ytegjbhngkhdcfaa
