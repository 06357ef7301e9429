/-
  No cell of these rows narrows 'for every input' (looked for: loops, veiled, ifaces, maps, wideKeys, modest, calm, conditions, laid).
  DERIVED. THE GIVEN ROWS OF THIS SEAT. 12 by the template 'for every input the law returns true; each argument reads behind the call as it read before'; 0 by the template 'total and deterministic' (their statements: YtbleabcobojdcaaTotals.lean).
  GIVEN WITH THE SEED: the statements are not yours to turn. If you find one false, say at which input.
  Laid BY PROGRAM, IN A SANDBOX (cutbox-rows.mjs): the forced cells as the released guide's own fill.sh prints them over the translation 89cc3db3b68706bf… (all of the seat's roots in one cut). By AI agents, Wed Nov 11 2026. No macro, syntax, notation, axiom, sorry.
-/
import Derived.Test.YtbleabcobojdcaaChecked
import GoSem.Claim
import GoSem.ClaimJoined
import GoSem.ClaimMapViews
import Derived.JoinedTies
import Derived.KernelRfl
namespace Go.Proofs.Ytbleabcobojdcaa
/- THE CELL 'sum', in the pinned program and in every row, IS THE sha256 OF THE DUMP (.gsa) THAT YtbleabcobojdcaaProg.lean LOADS. Nothing in Lean hashes anything: it is a label: what it is worth is what the hold of that sum in a sandbox is worth. -/
noncomputable def Try.pinned : Pinned := { name := "ytbleabcobojdcaa", sum := "89cc3db3b68706bfbf0163cfc73c7c10f93b183fe9241a8cbe78bfc108cab4ae", checked := Try.checked }
namespace Rows
def none {H : Type} : Left H := { results := [], args := [] }

/-- 'laws.FnExactChunkName': WHATEVER THE INPUT: true; the input reads as it did. -/
def fnExactChunkNameSpec : ChangeSpec := { name := "fnExactChunkName", fn := fun _ => fun
  | [d] => { results := [.lit (.bool true)], args := [d] }
  | _ => none }
def fnExactChunkNameRow : OpenClaim := { program := "ytbleabcobojdcaa", sum := "89cc3db3b68706bfbf0163cfc73c7c10f93b183fe9241a8cbe78bfc108cab4ae", func := "loop.example/capturemonitor/laws.FnExactChunkName", spec := "fnExactChunkName", apart := false }
def FnExactChunkNameSaid : Prop := fnExactChunkNameRow.holds Try.pinned (OpenSpec.ofChange fnExactChunkNameSpec)

/-- ITS FALSE NEIGHBOUR: 'it returns false'. Refute it at one input. -/
def fnExactChunkNameWrong : ChangeSpec := { name := "fnExactChunkName", fn := fun _ => fun
  | [d] => { results := [.lit (.bool false)], args := [d] }
  | _ => none }
def FnExactChunkNameWrongFalsely : Prop := fnExactChunkNameRow.holds Try.pinned (OpenSpec.ofChange fnExactChunkNameWrong)

/-- 'laws.FnExactChunkValid': WHATEVER THE INPUT: true; the input reads as it did. -/
def fnExactChunkValidSpec : ChangeSpec := { name := "fnExactChunkValid", fn := fun _ => fun
  | [d] => { results := [.lit (.bool true)], args := [d] }
  | _ => none }
def fnExactChunkValidRow : OpenClaim := { program := "ytbleabcobojdcaa", sum := "89cc3db3b68706bfbf0163cfc73c7c10f93b183fe9241a8cbe78bfc108cab4ae", func := "loop.example/capturemonitor/laws.FnExactChunkValid", spec := "fnExactChunkValid", apart := false }
def FnExactChunkValidSaid : Prop := fnExactChunkValidRow.holds Try.pinned (OpenSpec.ofChange fnExactChunkValidSpec)

/-- ITS FALSE NEIGHBOUR: 'it returns false'. Refute it at one input. -/
def fnExactChunkValidWrong : ChangeSpec := { name := "fnExactChunkValid", fn := fun _ => fun
  | [d] => { results := [.lit (.bool false)], args := [d] }
  | _ => none }
def FnExactChunkValidWrongFalsely : Prop := fnExactChunkValidRow.holds Try.pinned (OpenSpec.ofChange fnExactChunkValidWrong)

/-- 'laws.FnChunkName': WHATEVER THE INPUT: true; the input reads as it did. -/
def fnChunkNameSpec : ChangeSpec := { name := "fnChunkName", fn := fun _ => fun
  | [d] => { results := [.lit (.bool true)], args := [d] }
  | _ => none }
def fnChunkNameRow : OpenClaim := { program := "ytbleabcobojdcaa", sum := "89cc3db3b68706bfbf0163cfc73c7c10f93b183fe9241a8cbe78bfc108cab4ae", func := "loop.example/capturemonitor/laws.FnChunkName", spec := "fnChunkName", apart := false }
def FnChunkNameSaid : Prop := fnChunkNameRow.holds Try.pinned (OpenSpec.ofChange fnChunkNameSpec)

/-- ITS FALSE NEIGHBOUR: 'it returns false'. Refute it at one input. -/
def fnChunkNameWrong : ChangeSpec := { name := "fnChunkName", fn := fun _ => fun
  | [d] => { results := [.lit (.bool false)], args := [d] }
  | _ => none }
def FnChunkNameWrongFalsely : Prop := fnChunkNameRow.holds Try.pinned (OpenSpec.ofChange fnChunkNameWrong)

/-- 'laws.FnChunkNameOther': WHATEVER THE INPUT: true; the input reads as it did. -/
def fnChunkNameOtherSpec : ChangeSpec := { name := "fnChunkNameOther", fn := fun _ => fun
  | [d] => { results := [.lit (.bool true)], args := [d] }
  | _ => none }
def fnChunkNameOtherRow : OpenClaim := { program := "ytbleabcobojdcaa", sum := "89cc3db3b68706bfbf0163cfc73c7c10f93b183fe9241a8cbe78bfc108cab4ae", func := "loop.example/capturemonitor/laws.FnChunkNameOther", spec := "fnChunkNameOther", apart := false }
def FnChunkNameOtherSaid : Prop := fnChunkNameOtherRow.holds Try.pinned (OpenSpec.ofChange fnChunkNameOtherSpec)

/-- ITS FALSE NEIGHBOUR: 'it returns false'. Refute it at one input. -/
def fnChunkNameOtherWrong : ChangeSpec := { name := "fnChunkNameOther", fn := fun _ => fun
  | [d] => { results := [.lit (.bool false)], args := [d] }
  | _ => none }
def FnChunkNameOtherWrongFalsely : Prop := fnChunkNameOtherRow.holds Try.pinned (OpenSpec.ofChange fnChunkNameOtherWrong)

/-- 'laws.FnExactChunkPut': WHATEVER THE INPUT: true; the input reads as it did. -/
def fnExactChunkPutSpec : ChangeSpec := { name := "fnExactChunkPut", fn := fun _ => fun
  | [d] => { results := [.lit (.bool true)], args := [d] }
  | _ => none }
def fnExactChunkPutRow : OpenClaim := { program := "ytbleabcobojdcaa", sum := "89cc3db3b68706bfbf0163cfc73c7c10f93b183fe9241a8cbe78bfc108cab4ae", func := "loop.example/capturemonitor/laws.FnExactChunkPut", spec := "fnExactChunkPut", apart := false }
def FnExactChunkPutSaid : Prop := fnExactChunkPutRow.holds Try.pinned (OpenSpec.ofChange fnExactChunkPutSpec)

/-- ITS FALSE NEIGHBOUR: 'it returns false'. Refute it at one input. -/
def fnExactChunkPutWrong : ChangeSpec := { name := "fnExactChunkPut", fn := fun _ => fun
  | [d] => { results := [.lit (.bool false)], args := [d] }
  | _ => none }
def FnExactChunkPutWrongFalsely : Prop := fnExactChunkPutRow.holds Try.pinned (OpenSpec.ofChange fnExactChunkPutWrong)

/-- 'laws.FnChunkBody': WHATEVER THE INPUT: true; the input reads as it did. -/
def fnChunkBodySpec : ChangeSpec := { name := "fnChunkBody", fn := fun _ => fun
  | [d] => { results := [.lit (.bool true)], args := [d] }
  | _ => none }
def fnChunkBodyRow : OpenClaim := { program := "ytbleabcobojdcaa", sum := "89cc3db3b68706bfbf0163cfc73c7c10f93b183fe9241a8cbe78bfc108cab4ae", func := "loop.example/capturemonitor/laws.FnChunkBody", spec := "fnChunkBody", apart := false }
def FnChunkBodySaid : Prop := fnChunkBodyRow.holds Try.pinned (OpenSpec.ofChange fnChunkBodySpec)

/-- ITS FALSE NEIGHBOUR: 'it returns false'. Refute it at one input. -/
def fnChunkBodyWrong : ChangeSpec := { name := "fnChunkBody", fn := fun _ => fun
  | [d] => { results := [.lit (.bool false)], args := [d] }
  | _ => none }
def FnChunkBodyWrongFalsely : Prop := fnChunkBodyRow.holds Try.pinned (OpenSpec.ofChange fnChunkBodyWrong)

/-- 'laws.FnChunkPutBad': WHATEVER THE INPUT: true; the input reads as it did. -/
def fnChunkPutBadSpec : ChangeSpec := { name := "fnChunkPutBad", fn := fun _ => fun
  | [d] => { results := [.lit (.bool true)], args := [d] }
  | _ => none }
def fnChunkPutBadRow : OpenClaim := { program := "ytbleabcobojdcaa", sum := "89cc3db3b68706bfbf0163cfc73c7c10f93b183fe9241a8cbe78bfc108cab4ae", func := "loop.example/capturemonitor/laws.FnChunkPutBad", spec := "fnChunkPutBad", apart := false }
def FnChunkPutBadSaid : Prop := fnChunkPutBadRow.holds Try.pinned (OpenSpec.ofChange fnChunkPutBadSpec)

/-- ITS FALSE NEIGHBOUR: 'it returns false'. Refute it at one input. -/
def fnChunkPutBadWrong : ChangeSpec := { name := "fnChunkPutBad", fn := fun _ => fun
  | [d] => { results := [.lit (.bool false)], args := [d] }
  | _ => none }
def FnChunkPutBadWrongFalsely : Prop := fnChunkPutBadRow.holds Try.pinned (OpenSpec.ofChange fnChunkPutBadWrong)

/-- 'laws.FnChunkPut': WHATEVER THE INPUT: true; the input reads as it did. -/
def fnChunkPutSpec : ChangeSpec := { name := "fnChunkPut", fn := fun _ => fun
  | [d] => { results := [.lit (.bool true)], args := [d] }
  | _ => none }
def fnChunkPutRow : OpenClaim := { program := "ytbleabcobojdcaa", sum := "89cc3db3b68706bfbf0163cfc73c7c10f93b183fe9241a8cbe78bfc108cab4ae", func := "loop.example/capturemonitor/laws.FnChunkPut", spec := "fnChunkPut", apart := false }
def FnChunkPutSaid : Prop := fnChunkPutRow.holds Try.pinned (OpenSpec.ofChange fnChunkPutSpec)

/-- ITS FALSE NEIGHBOUR: 'it returns false'. Refute it at one input. -/
def fnChunkPutWrong : ChangeSpec := { name := "fnChunkPut", fn := fun _ => fun
  | [d] => { results := [.lit (.bool false)], args := [d] }
  | _ => none }
def FnChunkPutWrongFalsely : Prop := fnChunkPutRow.holds Try.pinned (OpenSpec.ofChange fnChunkPutWrong)

/-- 'laws.FnSerialLessAdd': WHATEVER THE INPUT: true; the input reads as it did. -/
def fnSerialLessAddSpec : ChangeSpec := { name := "fnSerialLessAdd", fn := fun _ => fun
  | [d1, d2] => { results := [.lit (.bool true)], args := [d1, d2] }
  | _ => none }
def fnSerialLessAddRow : OpenClaim := { program := "ytbleabcobojdcaa", sum := "89cc3db3b68706bfbf0163cfc73c7c10f93b183fe9241a8cbe78bfc108cab4ae", func := "loop.example/capturemonitor/laws.FnSerialLessAdd", spec := "fnSerialLessAdd", apart := false }
def FnSerialLessAddSaid : Prop := fnSerialLessAddRow.holds Try.pinned (OpenSpec.ofChange fnSerialLessAddSpec)

/-- ITS FALSE NEIGHBOUR: 'it returns false'. Refute it at one input. -/
def fnSerialLessAddWrong : ChangeSpec := { name := "fnSerialLessAdd", fn := fun _ => fun
  | [d1, d2] => { results := [.lit (.bool false)], args := [d1, d2] }
  | _ => none }
def FnSerialLessAddWrongFalsely : Prop := fnSerialLessAddRow.holds Try.pinned (OpenSpec.ofChange fnSerialLessAddWrong)

/-- 'laws.FnSerialLast': WHATEVER THE INPUT: true; the input reads as it did. -/
def fnSerialLastSpec : ChangeSpec := { name := "fnSerialLast", fn := fun _ => fun
  | [d] => { results := [.lit (.bool true)], args := [d] }
  | _ => none }
def fnSerialLastRow : OpenClaim := { program := "ytbleabcobojdcaa", sum := "89cc3db3b68706bfbf0163cfc73c7c10f93b183fe9241a8cbe78bfc108cab4ae", func := "loop.example/capturemonitor/laws.FnSerialLast", spec := "fnSerialLast", apart := false }
def FnSerialLastSaid : Prop := fnSerialLastRow.holds Try.pinned (OpenSpec.ofChange fnSerialLastSpec)

/-- ITS FALSE NEIGHBOUR: 'it returns false'. Refute it at one input. -/
def fnSerialLastWrong : ChangeSpec := { name := "fnSerialLast", fn := fun _ => fun
  | [d] => { results := [.lit (.bool false)], args := [d] }
  | _ => none }
def FnSerialLastWrongFalsely : Prop := fnSerialLastRow.holds Try.pinned (OpenSpec.ofChange fnSerialLastWrong)

/-- 'laws.FnExactChunkGet': WHATEVER THE INPUT: true; the input reads as it did. -/
def fnExactChunkGetSpec : ChangeSpec := { name := "fnExactChunkGet", fn := fun _ => fun
  | [d1, d2] => { results := [.lit (.bool true)], args := [d1, d2] }
  | _ => none }
def fnExactChunkGetRow : OpenClaim := { program := "ytbleabcobojdcaa", sum := "89cc3db3b68706bfbf0163cfc73c7c10f93b183fe9241a8cbe78bfc108cab4ae", func := "loop.example/capturemonitor/laws.FnExactChunkGet", spec := "fnExactChunkGet", apart := false }
def FnExactChunkGetSaid : Prop := fnExactChunkGetRow.holds Try.pinned (OpenSpec.ofChange fnExactChunkGetSpec)

/-- ITS FALSE NEIGHBOUR: 'it returns false'. Refute it at one input. -/
def fnExactChunkGetWrong : ChangeSpec := { name := "fnExactChunkGet", fn := fun _ => fun
  | [d1, d2] => { results := [.lit (.bool false)], args := [d1, d2] }
  | _ => none }
def FnExactChunkGetWrongFalsely : Prop := fnExactChunkGetRow.holds Try.pinned (OpenSpec.ofChange fnExactChunkGetWrong)

/-- 'laws.FnChunkPutGet': WHATEVER THE INPUT: true; the input reads as it did. -/
def fnChunkPutGetSpec : ChangeSpec := { name := "fnChunkPutGet", fn := fun _ => fun
  | [d] => { results := [.lit (.bool true)], args := [d] }
  | _ => none }
def fnChunkPutGetRow : OpenClaim := { program := "ytbleabcobojdcaa", sum := "89cc3db3b68706bfbf0163cfc73c7c10f93b183fe9241a8cbe78bfc108cab4ae", func := "loop.example/capturemonitor/laws.FnChunkPutGet", spec := "fnChunkPutGet", apart := false }
def FnChunkPutGetSaid : Prop := fnChunkPutGetRow.holds Try.pinned (OpenSpec.ofChange fnChunkPutGetSpec)

/-- ITS FALSE NEIGHBOUR: 'it returns false'. Refute it at one input. -/
def fnChunkPutGetWrong : ChangeSpec := { name := "fnChunkPutGet", fn := fun _ => fun
  | [d] => { results := [.lit (.bool false)], args := [d] }
  | _ => none }
def FnChunkPutGetWrongFalsely : Prop := fnChunkPutGetRow.holds Try.pinned (OpenSpec.ofChange fnChunkPutGetWrong)

/- THE SECOND FORM. 'bulk': how many values and letters a reading holds, each counted each time it is reached (what is shared counts as often as it is met; a slice's spare places count too). A statement '..UptoSaid' is the law's where the arguments, and the package variables that the reading takes, are together of bulk at most 1048576: NARROWER than '..Said'. Prove '..Said' where nothing that the law and all that it calls make is longer than what came in: it says more and counts as full. Else prove '..UptoSaid'. A law counts once. -/
mutual
def uptoBulk {H : Type} : DataW H → Nat
  | .lit (.string bytes) => bytes.length + 1
  | .lit _ => 1
  | .nil => 1
  | .ptr d => uptoBulk d + 1
  | .slice elems spare => uptoBulkAll elems + uptoBulkAll spare + 1
  | .agg parts => uptoBulkAll parts + 1
  | .iface _ d => uptoBulk d + 1
  | .map entries => uptoBulkEntries entries + 1
  | .held _ => 1
def uptoBulkAll {H : Type} : List (DataW H) → Nat
  | [] => 0
  | d :: r => uptoBulk d + uptoBulkAll r
def uptoBulkEntries {H : Type} : List (Lit × DataW H) → Nat
  | [] => 0
  | x :: r => uptoBulkEntry x + uptoBulkEntries r
def uptoBulkEntry {H : Type} : Lit × DataW H → Nat
  | (.string bytes, d) => bytes.length + uptoBulk d + 1
  | (_, d) => uptoBulk d + 1
 end
def uptoSmall : (H : Type) → List (DataW H) → Bool := fun _ ds => decide (uptoBulkAll ds ≤ 1048576)
def OpenSpec.upto (s : _root_.Go.ChangeSpec) : _root_.Go.OpenSpec := { _root_.Go.OpenSpec.ofChange s with cond := some uptoSmall }

/-- 'laws.FnExactChunkName', WHERE WHAT IT READS IS OF BULK AT MOST 1048576: true; the input reads as it did. -/
def fnExactChunkNameUptoRow : OpenClaim := { program := "ytbleabcobojdcaa", sum := "89cc3db3b68706bfbf0163cfc73c7c10f93b183fe9241a8cbe78bfc108cab4ae", func := "loop.example/capturemonitor/laws.FnExactChunkName", spec := "fnExactChunkName", apart := false, narrowed := true }
def FnExactChunkNameUptoSaid : Prop := fnExactChunkNameUptoRow.holds Try.pinned (OpenSpec.upto fnExactChunkNameSpec)

/-- 'laws.FnExactChunkValid', WHERE WHAT IT READS IS OF BULK AT MOST 1048576: true; the input reads as it did. -/
def fnExactChunkValidUptoRow : OpenClaim := { program := "ytbleabcobojdcaa", sum := "89cc3db3b68706bfbf0163cfc73c7c10f93b183fe9241a8cbe78bfc108cab4ae", func := "loop.example/capturemonitor/laws.FnExactChunkValid", spec := "fnExactChunkValid", apart := false, narrowed := true }
def FnExactChunkValidUptoSaid : Prop := fnExactChunkValidUptoRow.holds Try.pinned (OpenSpec.upto fnExactChunkValidSpec)

/-- 'laws.FnChunkName', WHERE WHAT IT READS IS OF BULK AT MOST 1048576: true; the input reads as it did. -/
def fnChunkNameUptoRow : OpenClaim := { program := "ytbleabcobojdcaa", sum := "89cc3db3b68706bfbf0163cfc73c7c10f93b183fe9241a8cbe78bfc108cab4ae", func := "loop.example/capturemonitor/laws.FnChunkName", spec := "fnChunkName", apart := false, narrowed := true }
def FnChunkNameUptoSaid : Prop := fnChunkNameUptoRow.holds Try.pinned (OpenSpec.upto fnChunkNameSpec)

/-- 'laws.FnChunkNameOther', WHERE WHAT IT READS IS OF BULK AT MOST 1048576: true; the input reads as it did. -/
def fnChunkNameOtherUptoRow : OpenClaim := { program := "ytbleabcobojdcaa", sum := "89cc3db3b68706bfbf0163cfc73c7c10f93b183fe9241a8cbe78bfc108cab4ae", func := "loop.example/capturemonitor/laws.FnChunkNameOther", spec := "fnChunkNameOther", apart := false, narrowed := true }
def FnChunkNameOtherUptoSaid : Prop := fnChunkNameOtherUptoRow.holds Try.pinned (OpenSpec.upto fnChunkNameOtherSpec)

/-- 'laws.FnExactChunkPut', WHERE WHAT IT READS IS OF BULK AT MOST 1048576: true; the input reads as it did. -/
def fnExactChunkPutUptoRow : OpenClaim := { program := "ytbleabcobojdcaa", sum := "89cc3db3b68706bfbf0163cfc73c7c10f93b183fe9241a8cbe78bfc108cab4ae", func := "loop.example/capturemonitor/laws.FnExactChunkPut", spec := "fnExactChunkPut", apart := false, narrowed := true }
def FnExactChunkPutUptoSaid : Prop := fnExactChunkPutUptoRow.holds Try.pinned (OpenSpec.upto fnExactChunkPutSpec)

/-- 'laws.FnChunkBody', WHERE WHAT IT READS IS OF BULK AT MOST 1048576: true; the input reads as it did. -/
def fnChunkBodyUptoRow : OpenClaim := { program := "ytbleabcobojdcaa", sum := "89cc3db3b68706bfbf0163cfc73c7c10f93b183fe9241a8cbe78bfc108cab4ae", func := "loop.example/capturemonitor/laws.FnChunkBody", spec := "fnChunkBody", apart := false, narrowed := true }
def FnChunkBodyUptoSaid : Prop := fnChunkBodyUptoRow.holds Try.pinned (OpenSpec.upto fnChunkBodySpec)

/-- 'laws.FnChunkPutBad', WHERE WHAT IT READS IS OF BULK AT MOST 1048576: true; the input reads as it did. -/
def fnChunkPutBadUptoRow : OpenClaim := { program := "ytbleabcobojdcaa", sum := "89cc3db3b68706bfbf0163cfc73c7c10f93b183fe9241a8cbe78bfc108cab4ae", func := "loop.example/capturemonitor/laws.FnChunkPutBad", spec := "fnChunkPutBad", apart := false, narrowed := true }
def FnChunkPutBadUptoSaid : Prop := fnChunkPutBadUptoRow.holds Try.pinned (OpenSpec.upto fnChunkPutBadSpec)

/-- 'laws.FnChunkPut', WHERE WHAT IT READS IS OF BULK AT MOST 1048576: true; the input reads as it did. -/
def fnChunkPutUptoRow : OpenClaim := { program := "ytbleabcobojdcaa", sum := "89cc3db3b68706bfbf0163cfc73c7c10f93b183fe9241a8cbe78bfc108cab4ae", func := "loop.example/capturemonitor/laws.FnChunkPut", spec := "fnChunkPut", apart := false, narrowed := true }
def FnChunkPutUptoSaid : Prop := fnChunkPutUptoRow.holds Try.pinned (OpenSpec.upto fnChunkPutSpec)

/-- 'laws.FnSerialLessAdd', WHERE WHAT IT READS IS OF BULK AT MOST 1048576: true; the input reads as it did. -/
def fnSerialLessAddUptoRow : OpenClaim := { program := "ytbleabcobojdcaa", sum := "89cc3db3b68706bfbf0163cfc73c7c10f93b183fe9241a8cbe78bfc108cab4ae", func := "loop.example/capturemonitor/laws.FnSerialLessAdd", spec := "fnSerialLessAdd", apart := false, narrowed := true }
def FnSerialLessAddUptoSaid : Prop := fnSerialLessAddUptoRow.holds Try.pinned (OpenSpec.upto fnSerialLessAddSpec)

/-- 'laws.FnSerialLast', WHERE WHAT IT READS IS OF BULK AT MOST 1048576: true; the input reads as it did. -/
def fnSerialLastUptoRow : OpenClaim := { program := "ytbleabcobojdcaa", sum := "89cc3db3b68706bfbf0163cfc73c7c10f93b183fe9241a8cbe78bfc108cab4ae", func := "loop.example/capturemonitor/laws.FnSerialLast", spec := "fnSerialLast", apart := false, narrowed := true }
def FnSerialLastUptoSaid : Prop := fnSerialLastUptoRow.holds Try.pinned (OpenSpec.upto fnSerialLastSpec)

/-- 'laws.FnExactChunkGet', WHERE WHAT IT READS IS OF BULK AT MOST 1048576: true; the input reads as it did. -/
def fnExactChunkGetUptoRow : OpenClaim := { program := "ytbleabcobojdcaa", sum := "89cc3db3b68706bfbf0163cfc73c7c10f93b183fe9241a8cbe78bfc108cab4ae", func := "loop.example/capturemonitor/laws.FnExactChunkGet", spec := "fnExactChunkGet", apart := false, narrowed := true }
def FnExactChunkGetUptoSaid : Prop := fnExactChunkGetUptoRow.holds Try.pinned (OpenSpec.upto fnExactChunkGetSpec)

/-- 'laws.FnChunkPutGet', WHERE WHAT IT READS IS OF BULK AT MOST 1048576: true; the input reads as it did. -/
def fnChunkPutGetUptoRow : OpenClaim := { program := "ytbleabcobojdcaa", sum := "89cc3db3b68706bfbf0163cfc73c7c10f93b183fe9241a8cbe78bfc108cab4ae", func := "loop.example/capturemonitor/laws.FnChunkPutGet", spec := "fnChunkPutGet", apart := false, narrowed := true }
def FnChunkPutGetUptoSaid : Prop := fnChunkPutGetUptoRow.holds Try.pinned (OpenSpec.upto fnChunkPutGetSpec)

end Rows
end Go.Proofs.Ytbleabcobojdcaa
