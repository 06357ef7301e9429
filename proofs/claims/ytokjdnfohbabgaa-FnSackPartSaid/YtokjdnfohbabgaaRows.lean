/-
  No cell of these rows narrows 'for every input' (looked for: loops, veiled, ifaces, maps, wideKeys, modest, calm, conditions, laid).
  DERIVED. THE GIVEN ROWS OF THIS SEAT. 10 by the template 'for every input the law returns true; each argument reads behind the call as it read before'; 0 by the template 'total and deterministic' (their statements: YtokjdnfohbabgaaTotals.lean).
  GIVEN WITH THE SEED: the statements are not yours to turn. If you find one false, say at which input.
  Laid BY PROGRAM, IN A SANDBOX (cutbox-rows.mjs): the forced cells as the released guide's own fill.sh prints them over the translation 03bd829747581cdc… (all of the seat's roots in one cut). By AI agents, Wed Nov 11 2026. No macro, syntax, notation, axiom, sorry.
-/
import Derived.Test.YtokjdnfohbabgaaChecked
import GoSem.Claim
import GoSem.ClaimJoined
import GoSem.ClaimMapViews
import Derived.JoinedTies
import Derived.KernelRfl
namespace Go.Proofs.Ytokjdnfohbabgaa
/- THE CELL 'sum', in the pinned program and in every row, IS THE sha256 OF THE DUMP (.gsa) THAT YtokjdnfohbabgaaProg.lean LOADS. Nothing in Lean hashes anything: it is a label: what it is worth is what the hold of that sum in a sandbox is worth. -/
noncomputable def Try.pinned : Pinned := { name := "ytokjdnfohbabgaa", sum := "03bd829747581cdcdbea57aab8a9f557d2f0e7cdc3697868b0303525e807f5fc", checked := Try.checked }
namespace Rows
def none {H : Type} : Left H := { results := [], args := [] }

/-- 'laws.FnSackGet': WHATEVER THE INPUT: true; the input reads as it did. -/
def fnSackGetSpec : ChangeSpec := { name := "fnSackGet", fn := fun _ => fun
  | [d] => { results := [.lit (.bool true)], args := [d] }
  | _ => none }
def fnSackGetRow : OpenClaim := { program := "ytokjdnfohbabgaa", sum := "03bd829747581cdcdbea57aab8a9f557d2f0e7cdc3697868b0303525e807f5fc", func := "loop.example/capturemonitor/laws.FnSackGet", spec := "fnSackGet", apart := false }
def FnSackGetSaid : Prop := fnSackGetRow.holds Try.pinned (OpenSpec.ofChange fnSackGetSpec)

/-- ITS FALSE NEIGHBOUR: 'it returns false'. Refute it at one input. -/
def fnSackGetWrong : ChangeSpec := { name := "fnSackGet", fn := fun _ => fun
  | [d] => { results := [.lit (.bool false)], args := [d] }
  | _ => none }
def FnSackGetWrongFalsely : Prop := fnSackGetRow.holds Try.pinned (OpenSpec.ofChange fnSackGetWrong)

/-- 'laws.FnSackPart': WHATEVER THE INPUT: true; the input reads as it did. -/
def fnSackPartSpec : ChangeSpec := { name := "fnSackPart", fn := fun _ => fun
  | [d1, d2] => { results := [.lit (.bool true)], args := [d1, d2] }
  | _ => none }
def fnSackPartRow : OpenClaim := { program := "ytokjdnfohbabgaa", sum := "03bd829747581cdcdbea57aab8a9f557d2f0e7cdc3697868b0303525e807f5fc", func := "loop.example/capturemonitor/laws.FnSackPart", spec := "fnSackPart", apart := false }
def FnSackPartSaid : Prop := fnSackPartRow.holds Try.pinned (OpenSpec.ofChange fnSackPartSpec)

/-- ITS FALSE NEIGHBOUR: 'it returns false'. Refute it at one input. -/
def fnSackPartWrong : ChangeSpec := { name := "fnSackPart", fn := fun _ => fun
  | [d1, d2] => { results := [.lit (.bool false)], args := [d1, d2] }
  | _ => none }
def FnSackPartWrongFalsely : Prop := fnSackPartRow.holds Try.pinned (OpenSpec.ofChange fnSackPartWrong)

/-- 'laws.FnSackTouch': WHATEVER THE INPUT: true; the input reads as it did. -/
def fnSackTouchSpec : ChangeSpec := { name := "fnSackTouch", fn := fun _ => fun
  | [d] => { results := [.lit (.bool true)], args := [d] }
  | _ => none }
def fnSackTouchRow : OpenClaim := { program := "ytokjdnfohbabgaa", sum := "03bd829747581cdcdbea57aab8a9f557d2f0e7cdc3697868b0303525e807f5fc", func := "loop.example/capturemonitor/laws.FnSackTouch", spec := "fnSackTouch", apart := false }
def FnSackTouchSaid : Prop := fnSackTouchRow.holds Try.pinned (OpenSpec.ofChange fnSackTouchSpec)

/-- ITS FALSE NEIGHBOUR: 'it returns false'. Refute it at one input. -/
def fnSackTouchWrong : ChangeSpec := { name := "fnSackTouch", fn := fun _ => fun
  | [d] => { results := [.lit (.bool false)], args := [d] }
  | _ => none }
def FnSackTouchWrongFalsely : Prop := fnSackTouchRow.holds Try.pinned (OpenSpec.ofChange fnSackTouchWrong)

/-- 'laws.FnExactSackHas': WHATEVER THE INPUT: true; the input reads as it did. -/
def fnExactSackHasSpec : ChangeSpec := { name := "fnExactSackHas", fn := fun _ => fun
  | [d1, d2] => { results := [.lit (.bool true)], args := [d1, d2] }
  | _ => none }
def fnExactSackHasRow : OpenClaim := { program := "ytokjdnfohbabgaa", sum := "03bd829747581cdcdbea57aab8a9f557d2f0e7cdc3697868b0303525e807f5fc", func := "loop.example/capturemonitor/laws.FnExactSackHas", spec := "fnExactSackHas", apart := false }
def FnExactSackHasSaid : Prop := fnExactSackHasRow.holds Try.pinned (OpenSpec.ofChange fnExactSackHasSpec)

/-- ITS FALSE NEIGHBOUR: 'it returns false'. Refute it at one input. -/
def fnExactSackHasWrong : ChangeSpec := { name := "fnExactSackHas", fn := fun _ => fun
  | [d1, d2] => { results := [.lit (.bool false)], args := [d1, d2] }
  | _ => none }
def FnExactSackHasWrongFalsely : Prop := fnExactSackHasRow.holds Try.pinned (OpenSpec.ofChange fnExactSackHasWrong)

/-- 'laws.FnExactSackPut': WHATEVER THE INPUT: true; the input reads as it did. -/
def fnExactSackPutSpec : ChangeSpec := { name := "fnExactSackPut", fn := fun _ => fun
  | [d] => { results := [.lit (.bool true)], args := [d] }
  | _ => none }
def fnExactSackPutRow : OpenClaim := { program := "ytokjdnfohbabgaa", sum := "03bd829747581cdcdbea57aab8a9f557d2f0e7cdc3697868b0303525e807f5fc", func := "loop.example/capturemonitor/laws.FnExactSackPut", spec := "fnExactSackPut", apart := false }
def FnExactSackPutSaid : Prop := fnExactSackPutRow.holds Try.pinned (OpenSpec.ofChange fnExactSackPutSpec)

/-- ITS FALSE NEIGHBOUR: 'it returns false'. Refute it at one input. -/
def fnExactSackPutWrong : ChangeSpec := { name := "fnExactSackPut", fn := fun _ => fun
  | [d] => { results := [.lit (.bool false)], args := [d] }
  | _ => none }
def FnExactSackPutWrongFalsely : Prop := fnExactSackPutRow.holds Try.pinned (OpenSpec.ofChange fnExactSackPutWrong)

/-- 'laws.FnExactSackGet': WHATEVER THE INPUT: true; the input reads as it did. -/
def fnExactSackGetSpec : ChangeSpec := { name := "fnExactSackGet", fn := fun _ => fun
  | [d] => { results := [.lit (.bool true)], args := [d] }
  | _ => none }
def fnExactSackGetRow : OpenClaim := { program := "ytokjdnfohbabgaa", sum := "03bd829747581cdcdbea57aab8a9f557d2f0e7cdc3697868b0303525e807f5fc", func := "loop.example/capturemonitor/laws.FnExactSackGet", spec := "fnExactSackGet", apart := false }
def FnExactSackGetSaid : Prop := fnExactSackGetRow.holds Try.pinned (OpenSpec.ofChange fnExactSackGetSpec)

/-- ITS FALSE NEIGHBOUR: 'it returns false'. Refute it at one input. -/
def fnExactSackGetWrong : ChangeSpec := { name := "fnExactSackGet", fn := fun _ => fun
  | [d] => { results := [.lit (.bool false)], args := [d] }
  | _ => none }
def FnExactSackGetWrongFalsely : Prop := fnExactSackGetRow.holds Try.pinned (OpenSpec.ofChange fnExactSackGetWrong)

/-- 'laws.FnSackHas': WHATEVER THE INPUT: true; the input reads as it did. -/
def fnSackHasSpec : ChangeSpec := { name := "fnSackHas", fn := fun _ => fun
  | [d] => { results := [.lit (.bool true)], args := [d] }
  | _ => none }
def fnSackHasRow : OpenClaim := { program := "ytokjdnfohbabgaa", sum := "03bd829747581cdcdbea57aab8a9f557d2f0e7cdc3697868b0303525e807f5fc", func := "loop.example/capturemonitor/laws.FnSackHas", spec := "fnSackHas", apart := false }
def FnSackHasSaid : Prop := fnSackHasRow.holds Try.pinned (OpenSpec.ofChange fnSackHasSpec)

/-- ITS FALSE NEIGHBOUR: 'it returns false'. Refute it at one input. -/
def fnSackHasWrong : ChangeSpec := { name := "fnSackHas", fn := fun _ => fun
  | [d] => { results := [.lit (.bool false)], args := [d] }
  | _ => none }
def FnSackHasWrongFalsely : Prop := fnSackHasRow.holds Try.pinned (OpenSpec.ofChange fnSackHasWrong)

/-- 'laws.FnSackEdges': WHATEVER THE INPUT: true; the input reads as it did. -/
def fnSackEdgesSpec : ChangeSpec := { name := "fnSackEdges", fn := fun _ => fun
  | [d] => { results := [.lit (.bool true)], args := [d] }
  | _ => none }
def fnSackEdgesRow : OpenClaim := { program := "ytokjdnfohbabgaa", sum := "03bd829747581cdcdbea57aab8a9f557d2f0e7cdc3697868b0303525e807f5fc", func := "loop.example/capturemonitor/laws.FnSackEdges", spec := "fnSackEdges", apart := false }
def FnSackEdgesSaid : Prop := fnSackEdgesRow.holds Try.pinned (OpenSpec.ofChange fnSackEdgesSpec)

/-- ITS FALSE NEIGHBOUR: 'it returns false'. Refute it at one input. -/
def fnSackEdgesWrong : ChangeSpec := { name := "fnSackEdges", fn := fun _ => fun
  | [d] => { results := [.lit (.bool false)], args := [d] }
  | _ => none }
def FnSackEdgesWrongFalsely : Prop := fnSackEdgesRow.holds Try.pinned (OpenSpec.ofChange fnSackEdgesWrong)

/-- 'laws.FnSackFirst': WHATEVER THE INPUT: true; the input reads as it did. -/
def fnSackFirstSpec : ChangeSpec := { name := "fnSackFirst", fn := fun _ => fun
  | [d] => { results := [.lit (.bool true)], args := [d] }
  | _ => none }
def fnSackFirstRow : OpenClaim := { program := "ytokjdnfohbabgaa", sum := "03bd829747581cdcdbea57aab8a9f557d2f0e7cdc3697868b0303525e807f5fc", func := "loop.example/capturemonitor/laws.FnSackFirst", spec := "fnSackFirst", apart := false }
def FnSackFirstSaid : Prop := fnSackFirstRow.holds Try.pinned (OpenSpec.ofChange fnSackFirstSpec)

/-- ITS FALSE NEIGHBOUR: 'it returns false'. Refute it at one input. -/
def fnSackFirstWrong : ChangeSpec := { name := "fnSackFirst", fn := fun _ => fun
  | [d] => { results := [.lit (.bool false)], args := [d] }
  | _ => none }
def FnSackFirstWrongFalsely : Prop := fnSackFirstRow.holds Try.pinned (OpenSpec.ofChange fnSackFirstWrong)

/-- 'laws.FnSackPut': WHATEVER THE INPUT: true; the input reads as it did. -/
def fnSackPutSpec : ChangeSpec := { name := "fnSackPut", fn := fun _ => fun
  | [d] => { results := [.lit (.bool true)], args := [d] }
  | _ => none }
def fnSackPutRow : OpenClaim := { program := "ytokjdnfohbabgaa", sum := "03bd829747581cdcdbea57aab8a9f557d2f0e7cdc3697868b0303525e807f5fc", func := "loop.example/capturemonitor/laws.FnSackPut", spec := "fnSackPut", apart := false }
def FnSackPutSaid : Prop := fnSackPutRow.holds Try.pinned (OpenSpec.ofChange fnSackPutSpec)

/-- ITS FALSE NEIGHBOUR: 'it returns false'. Refute it at one input. -/
def fnSackPutWrong : ChangeSpec := { name := "fnSackPut", fn := fun _ => fun
  | [d] => { results := [.lit (.bool false)], args := [d] }
  | _ => none }
def FnSackPutWrongFalsely : Prop := fnSackPutRow.holds Try.pinned (OpenSpec.ofChange fnSackPutWrong)

/- THE SECOND FORM. 'bulk': how many values and letters a reading holds, each counted each time it is reached (what is shared counts as often as it is met; a slice's spare places count too). A statement '..UptoSaid' is the law's where the arguments, and the package variables that the reading takes, are together of bulk at most 1048576: NARROWER than '..Said'. Prove '..Said' where nothing that the law and all that it calls make is longer than what came in: it says more and counts as full. Else prove '..UptoSaid'. A law counts once. -/
mutual
def uptoBulk {H : Type} : DataW H → Nat
  | .lit (.string bytes) => bytes.length + 1
  | .lit _ => 1
  | .nil => 1
  | .ptr d => uptoBulk d + 1
  | .slice elems spare => uptoBulkAll elems + uptoBulkAll spare + 1
  | .agg parts => uptoBulkAll parts + 1
  | .iface _ d => uptoBulk d + 1
  | .map entries => uptoBulkEntries entries + 1
  | .held _ => 1
def uptoBulkAll {H : Type} : List (DataW H) → Nat
  | [] => 0
  | d :: r => uptoBulk d + uptoBulkAll r
def uptoBulkEntries {H : Type} : List (Lit × DataW H) → Nat
  | [] => 0
  | x :: r => uptoBulkEntry x + uptoBulkEntries r
def uptoBulkEntry {H : Type} : Lit × DataW H → Nat
  | (.string bytes, d) => bytes.length + uptoBulk d + 1
  | (_, d) => uptoBulk d + 1
 end
def uptoSmall : (H : Type) → List (DataW H) → Bool := fun _ ds => decide (uptoBulkAll ds ≤ 1048576)
def OpenSpec.upto (s : _root_.Go.ChangeSpec) : _root_.Go.OpenSpec := { _root_.Go.OpenSpec.ofChange s with cond := some uptoSmall }

/-- 'laws.FnSackGet', WHERE WHAT IT READS IS OF BULK AT MOST 1048576: true; the input reads as it did. -/
def fnSackGetUptoRow : OpenClaim := { program := "ytokjdnfohbabgaa", sum := "03bd829747581cdcdbea57aab8a9f557d2f0e7cdc3697868b0303525e807f5fc", func := "loop.example/capturemonitor/laws.FnSackGet", spec := "fnSackGet", apart := false, narrowed := true }
def FnSackGetUptoSaid : Prop := fnSackGetUptoRow.holds Try.pinned (OpenSpec.upto fnSackGetSpec)

/-- 'laws.FnSackPart', WHERE WHAT IT READS IS OF BULK AT MOST 1048576: true; the input reads as it did. -/
def fnSackPartUptoRow : OpenClaim := { program := "ytokjdnfohbabgaa", sum := "03bd829747581cdcdbea57aab8a9f557d2f0e7cdc3697868b0303525e807f5fc", func := "loop.example/capturemonitor/laws.FnSackPart", spec := "fnSackPart", apart := false, narrowed := true }
def FnSackPartUptoSaid : Prop := fnSackPartUptoRow.holds Try.pinned (OpenSpec.upto fnSackPartSpec)

/-- 'laws.FnSackTouch', WHERE WHAT IT READS IS OF BULK AT MOST 1048576: true; the input reads as it did. -/
def fnSackTouchUptoRow : OpenClaim := { program := "ytokjdnfohbabgaa", sum := "03bd829747581cdcdbea57aab8a9f557d2f0e7cdc3697868b0303525e807f5fc", func := "loop.example/capturemonitor/laws.FnSackTouch", spec := "fnSackTouch", apart := false, narrowed := true }
def FnSackTouchUptoSaid : Prop := fnSackTouchUptoRow.holds Try.pinned (OpenSpec.upto fnSackTouchSpec)

/-- 'laws.FnExactSackHas', WHERE WHAT IT READS IS OF BULK AT MOST 1048576: true; the input reads as it did. -/
def fnExactSackHasUptoRow : OpenClaim := { program := "ytokjdnfohbabgaa", sum := "03bd829747581cdcdbea57aab8a9f557d2f0e7cdc3697868b0303525e807f5fc", func := "loop.example/capturemonitor/laws.FnExactSackHas", spec := "fnExactSackHas", apart := false, narrowed := true }
def FnExactSackHasUptoSaid : Prop := fnExactSackHasUptoRow.holds Try.pinned (OpenSpec.upto fnExactSackHasSpec)

/-- 'laws.FnExactSackPut', WHERE WHAT IT READS IS OF BULK AT MOST 1048576: true; the input reads as it did. -/
def fnExactSackPutUptoRow : OpenClaim := { program := "ytokjdnfohbabgaa", sum := "03bd829747581cdcdbea57aab8a9f557d2f0e7cdc3697868b0303525e807f5fc", func := "loop.example/capturemonitor/laws.FnExactSackPut", spec := "fnExactSackPut", apart := false, narrowed := true }
def FnExactSackPutUptoSaid : Prop := fnExactSackPutUptoRow.holds Try.pinned (OpenSpec.upto fnExactSackPutSpec)

/-- 'laws.FnExactSackGet', WHERE WHAT IT READS IS OF BULK AT MOST 1048576: true; the input reads as it did. -/
def fnExactSackGetUptoRow : OpenClaim := { program := "ytokjdnfohbabgaa", sum := "03bd829747581cdcdbea57aab8a9f557d2f0e7cdc3697868b0303525e807f5fc", func := "loop.example/capturemonitor/laws.FnExactSackGet", spec := "fnExactSackGet", apart := false, narrowed := true }
def FnExactSackGetUptoSaid : Prop := fnExactSackGetUptoRow.holds Try.pinned (OpenSpec.upto fnExactSackGetSpec)

/-- 'laws.FnSackHas', WHERE WHAT IT READS IS OF BULK AT MOST 1048576: true; the input reads as it did. -/
def fnSackHasUptoRow : OpenClaim := { program := "ytokjdnfohbabgaa", sum := "03bd829747581cdcdbea57aab8a9f557d2f0e7cdc3697868b0303525e807f5fc", func := "loop.example/capturemonitor/laws.FnSackHas", spec := "fnSackHas", apart := false, narrowed := true }
def FnSackHasUptoSaid : Prop := fnSackHasUptoRow.holds Try.pinned (OpenSpec.upto fnSackHasSpec)

/-- 'laws.FnSackEdges', WHERE WHAT IT READS IS OF BULK AT MOST 1048576: true; the input reads as it did. -/
def fnSackEdgesUptoRow : OpenClaim := { program := "ytokjdnfohbabgaa", sum := "03bd829747581cdcdbea57aab8a9f557d2f0e7cdc3697868b0303525e807f5fc", func := "loop.example/capturemonitor/laws.FnSackEdges", spec := "fnSackEdges", apart := false, narrowed := true }
def FnSackEdgesUptoSaid : Prop := fnSackEdgesUptoRow.holds Try.pinned (OpenSpec.upto fnSackEdgesSpec)

/-- 'laws.FnSackFirst', WHERE WHAT IT READS IS OF BULK AT MOST 1048576: true; the input reads as it did. -/
def fnSackFirstUptoRow : OpenClaim := { program := "ytokjdnfohbabgaa", sum := "03bd829747581cdcdbea57aab8a9f557d2f0e7cdc3697868b0303525e807f5fc", func := "loop.example/capturemonitor/laws.FnSackFirst", spec := "fnSackFirst", apart := false, narrowed := true }
def FnSackFirstUptoSaid : Prop := fnSackFirstUptoRow.holds Try.pinned (OpenSpec.upto fnSackFirstSpec)

/-- 'laws.FnSackPut', WHERE WHAT IT READS IS OF BULK AT MOST 1048576: true; the input reads as it did. -/
def fnSackPutUptoRow : OpenClaim := { program := "ytokjdnfohbabgaa", sum := "03bd829747581cdcdbea57aab8a9f557d2f0e7cdc3697868b0303525e807f5fc", func := "loop.example/capturemonitor/laws.FnSackPut", spec := "fnSackPut", apart := false, narrowed := true }
def FnSackPutUptoSaid : Prop := fnSackPutUptoRow.holds Try.pinned (OpenSpec.upto fnSackPutSpec)

end Rows
end Go.Proofs.Ytokjdnfohbabgaa
