/-
  No cell of these rows narrows 'for every input' (looked for: loops, veiled, ifaces, maps, wideKeys, modest, calm, conditions, laid).
  DERIVED. THE GIVEN ROWS OF THIS SEAT. 10 by the template 'for every input the law returns true; each argument reads behind the call as it read before'; 0 by the template 'total and deterministic' (their statements: YtfkajcljcbdjiaaTotals.lean).
  GIVEN WITH THE SEED: the statements are not yours to turn. If you find one false, say at which input.
  Laid BY PROGRAM, IN A SANDBOX (cutbox-rows.mjs): the forced cells as the released guide's own fill.sh prints them over the translation 5c9b0aa755c5b7aa… (all of the seat's roots in one cut). By AI agents, Wed Nov 11 2026. No macro, syntax, notation, axiom, sorry.
-/
import Derived.Test.YtfkajcljcbdjiaaChecked
import GoSem.Claim
import GoSem.ClaimJoined
import GoSem.ClaimMapViews
import Derived.JoinedTies
import Derived.KernelRfl
namespace Go.Proofs.Ytfkajcljcbdjiaa
/- THE CELL 'sum', in the pinned program and in every row, IS THE sha256 OF THE DUMP (.gsa) THAT YtfkajcljcbdjiaaProg.lean LOADS. Nothing in Lean hashes anything: it is a label: what it is worth is what the hold of that sum in a sandbox is worth. -/
noncomputable def Try.pinned : Pinned := { name := "ytfkajcljcbdjiaa", sum := "5c9b0aa755c5b7aa1eddd23ed6d18bbbabac955283c9b7d5b16d0f7233dfa629", checked := Try.checked }
namespace Rows
def none {H : Type} : Left H := { results := [], args := [] }

/-- 'laws.FnPacketHead': WHATEVER THE INPUT: true; the input reads as it did. -/
def fnPacketHeadSpec : ChangeSpec := { name := "fnPacketHead", fn := fun _ => fun
  | [d] => { results := [.lit (.bool true)], args := [d] }
  | _ => none }
def fnPacketHeadRow : OpenClaim := { program := "ytfkajcljcbdjiaa", sum := "5c9b0aa755c5b7aa1eddd23ed6d18bbbabac955283c9b7d5b16d0f7233dfa629", func := "loop.example/capturemonitor/laws.FnPacketHead", spec := "fnPacketHead", apart := false }
def FnPacketHeadSaid : Prop := fnPacketHeadRow.holds Try.pinned (OpenSpec.ofChange fnPacketHeadSpec)

/-- ITS FALSE NEIGHBOUR: 'it returns false'. Refute it at one input. -/
def fnPacketHeadWrong : ChangeSpec := { name := "fnPacketHead", fn := fun _ => fun
  | [d] => { results := [.lit (.bool false)], args := [d] }
  | _ => none }
def FnPacketHeadWrongFalsely : Prop := fnPacketHeadRow.holds Try.pinned (OpenSpec.ofChange fnPacketHeadWrong)

/-- 'laws.FnExactPacketValid': WHATEVER THE INPUT: true; the input reads as it did. -/
def fnExactPacketValidSpec : ChangeSpec := { name := "fnExactPacketValid", fn := fun _ => fun
  | [d] => { results := [.lit (.bool true)], args := [d] }
  | _ => none }
def fnExactPacketValidRow : OpenClaim := { program := "ytfkajcljcbdjiaa", sum := "5c9b0aa755c5b7aa1eddd23ed6d18bbbabac955283c9b7d5b16d0f7233dfa629", func := "loop.example/capturemonitor/laws.FnExactPacketValid", spec := "fnExactPacketValid", apart := false }
def FnExactPacketValidSaid : Prop := fnExactPacketValidRow.holds Try.pinned (OpenSpec.ofChange fnExactPacketValidSpec)

/-- ITS FALSE NEIGHBOUR: 'it returns false'. Refute it at one input. -/
def fnExactPacketValidWrong : ChangeSpec := { name := "fnExactPacketValid", fn := fun _ => fun
  | [d] => { results := [.lit (.bool false)], args := [d] }
  | _ => none }
def FnExactPacketValidWrongFalsely : Prop := fnExactPacketValidRow.holds Try.pinned (OpenSpec.ofChange fnExactPacketValidWrong)

/-- 'laws.FnPacketPart': WHATEVER THE INPUT: true; the input reads as it did. -/
def fnPacketPartSpec : ChangeSpec := { name := "fnPacketPart", fn := fun _ => fun
  | [d] => { results := [.lit (.bool true)], args := [d] }
  | _ => none }
def fnPacketPartRow : OpenClaim := { program := "ytfkajcljcbdjiaa", sum := "5c9b0aa755c5b7aa1eddd23ed6d18bbbabac955283c9b7d5b16d0f7233dfa629", func := "loop.example/capturemonitor/laws.FnPacketPart", spec := "fnPacketPart", apart := false }
def FnPacketPartSaid : Prop := fnPacketPartRow.holds Try.pinned (OpenSpec.ofChange fnPacketPartSpec)

/-- ITS FALSE NEIGHBOUR: 'it returns false'. Refute it at one input. -/
def fnPacketPartWrong : ChangeSpec := { name := "fnPacketPart", fn := fun _ => fun
  | [d] => { results := [.lit (.bool false)], args := [d] }
  | _ => none }
def FnPacketPartWrongFalsely : Prop := fnPacketPartRow.holds Try.pinned (OpenSpec.ofChange fnPacketPartWrong)

/-- 'laws.FnPacketPorts': WHATEVER THE INPUT: true; the input reads as it did. -/
def fnPacketPortsSpec : ChangeSpec := { name := "fnPacketPorts", fn := fun _ => fun
  | [d] => { results := [.lit (.bool true)], args := [d] }
  | _ => none }
def fnPacketPortsRow : OpenClaim := { program := "ytfkajcljcbdjiaa", sum := "5c9b0aa755c5b7aa1eddd23ed6d18bbbabac955283c9b7d5b16d0f7233dfa629", func := "loop.example/capturemonitor/laws.FnPacketPorts", spec := "fnPacketPorts", apart := false }
def FnPacketPortsSaid : Prop := fnPacketPortsRow.holds Try.pinned (OpenSpec.ofChange fnPacketPortsSpec)

/-- ITS FALSE NEIGHBOUR: 'it returns false'. Refute it at one input. -/
def fnPacketPortsWrong : ChangeSpec := { name := "fnPacketPorts", fn := fun _ => fun
  | [d] => { results := [.lit (.bool false)], args := [d] }
  | _ => none }
def FnPacketPortsWrongFalsely : Prop := fnPacketPortsRow.holds Try.pinned (OpenSpec.ofChange fnPacketPortsWrong)

/-- 'laws.FnExactPacketAlone': WHATEVER THE INPUT: true; the input reads as it did. -/
def fnExactPacketAloneSpec : ChangeSpec := { name := "fnExactPacketAlone", fn := fun _ => fun
  | [d] => { results := [.lit (.bool true)], args := [d] }
  | _ => none }
def fnExactPacketAloneRow : OpenClaim := { program := "ytfkajcljcbdjiaa", sum := "5c9b0aa755c5b7aa1eddd23ed6d18bbbabac955283c9b7d5b16d0f7233dfa629", func := "loop.example/capturemonitor/laws.FnExactPacketAlone", spec := "fnExactPacketAlone", apart := false }
def FnExactPacketAloneSaid : Prop := fnExactPacketAloneRow.holds Try.pinned (OpenSpec.ofChange fnExactPacketAloneSpec)

/-- ITS FALSE NEIGHBOUR: 'it returns false'. Refute it at one input. -/
def fnExactPacketAloneWrong : ChangeSpec := { name := "fnExactPacketAlone", fn := fun _ => fun
  | [d] => { results := [.lit (.bool false)], args := [d] }
  | _ => none }
def FnExactPacketAloneWrongFalsely : Prop := fnExactPacketAloneRow.holds Try.pinned (OpenSpec.ofChange fnExactPacketAloneWrong)

/-- 'laws.FnPacketAlone': WHATEVER THE INPUT: true; the input reads as it did. -/
def fnPacketAloneSpec : ChangeSpec := { name := "fnPacketAlone", fn := fun _ => fun
  | [d] => { results := [.lit (.bool true)], args := [d] }
  | _ => none }
def fnPacketAloneRow : OpenClaim := { program := "ytfkajcljcbdjiaa", sum := "5c9b0aa755c5b7aa1eddd23ed6d18bbbabac955283c9b7d5b16d0f7233dfa629", func := "loop.example/capturemonitor/laws.FnPacketAlone", spec := "fnPacketAlone", apart := false }
def FnPacketAloneSaid : Prop := fnPacketAloneRow.holds Try.pinned (OpenSpec.ofChange fnPacketAloneSpec)

/-- ITS FALSE NEIGHBOUR: 'it returns false'. Refute it at one input. -/
def fnPacketAloneWrong : ChangeSpec := { name := "fnPacketAlone", fn := fun _ => fun
  | [d] => { results := [.lit (.bool false)], args := [d] }
  | _ => none }
def FnPacketAloneWrongFalsely : Prop := fnPacketAloneRow.holds Try.pinned (OpenSpec.ofChange fnPacketAloneWrong)

/-- 'laws.FnPacketAloneOne': WHATEVER THE INPUT: true; the input reads as it did. -/
def fnPacketAloneOneSpec : ChangeSpec := { name := "fnPacketAloneOne", fn := fun _ => fun
  | [d] => { results := [.lit (.bool true)], args := [d] }
  | _ => none }
def fnPacketAloneOneRow : OpenClaim := { program := "ytfkajcljcbdjiaa", sum := "5c9b0aa755c5b7aa1eddd23ed6d18bbbabac955283c9b7d5b16d0f7233dfa629", func := "loop.example/capturemonitor/laws.FnPacketAloneOne", spec := "fnPacketAloneOne", apart := false }
def FnPacketAloneOneSaid : Prop := fnPacketAloneOneRow.holds Try.pinned (OpenSpec.ofChange fnPacketAloneOneSpec)

/-- ITS FALSE NEIGHBOUR: 'it returns false'. Refute it at one input. -/
def fnPacketAloneOneWrong : ChangeSpec := { name := "fnPacketAloneOne", fn := fun _ => fun
  | [d] => { results := [.lit (.bool false)], args := [d] }
  | _ => none }
def FnPacketAloneOneWrongFalsely : Prop := fnPacketAloneOneRow.holds Try.pinned (OpenSpec.ofChange fnPacketAloneOneWrong)

/-- 'laws.FnExactPacketPut': WHATEVER THE INPUT: true; the input reads as it did. -/
def fnExactPacketPutSpec : ChangeSpec := { name := "fnExactPacketPut", fn := fun _ => fun
  | [d] => { results := [.lit (.bool true)], args := [d] }
  | _ => none }
def fnExactPacketPutRow : OpenClaim := { program := "ytfkajcljcbdjiaa", sum := "5c9b0aa755c5b7aa1eddd23ed6d18bbbabac955283c9b7d5b16d0f7233dfa629", func := "loop.example/capturemonitor/laws.FnExactPacketPut", spec := "fnExactPacketPut", apart := false }
def FnExactPacketPutSaid : Prop := fnExactPacketPutRow.holds Try.pinned (OpenSpec.ofChange fnExactPacketPutSpec)

/-- ITS FALSE NEIGHBOUR: 'it returns false'. Refute it at one input. -/
def fnExactPacketPutWrong : ChangeSpec := { name := "fnExactPacketPut", fn := fun _ => fun
  | [d] => { results := [.lit (.bool false)], args := [d] }
  | _ => none }
def FnExactPacketPutWrongFalsely : Prop := fnExactPacketPutRow.holds Try.pinned (OpenSpec.ofChange fnExactPacketPutWrong)

/-- 'laws.FnPacketPutBad': WHATEVER THE INPUT: true; the input reads as it did. -/
def fnPacketPutBadSpec : ChangeSpec := { name := "fnPacketPutBad", fn := fun _ => fun
  | [d] => { results := [.lit (.bool true)], args := [d] }
  | _ => none }
def fnPacketPutBadRow : OpenClaim := { program := "ytfkajcljcbdjiaa", sum := "5c9b0aa755c5b7aa1eddd23ed6d18bbbabac955283c9b7d5b16d0f7233dfa629", func := "loop.example/capturemonitor/laws.FnPacketPutBad", spec := "fnPacketPutBad", apart := false }
def FnPacketPutBadSaid : Prop := fnPacketPutBadRow.holds Try.pinned (OpenSpec.ofChange fnPacketPutBadSpec)

/-- ITS FALSE NEIGHBOUR: 'it returns false'. Refute it at one input. -/
def fnPacketPutBadWrong : ChangeSpec := { name := "fnPacketPutBad", fn := fun _ => fun
  | [d] => { results := [.lit (.bool false)], args := [d] }
  | _ => none }
def FnPacketPutBadWrongFalsely : Prop := fnPacketPutBadRow.holds Try.pinned (OpenSpec.ofChange fnPacketPutBadWrong)

/-- 'laws.FnPacketSize': WHATEVER THE INPUT: true; the input reads as it did. -/
def fnPacketSizeSpec : ChangeSpec := { name := "fnPacketSize", fn := fun _ => fun
  | [d] => { results := [.lit (.bool true)], args := [d] }
  | _ => none }
def fnPacketSizeRow : OpenClaim := { program := "ytfkajcljcbdjiaa", sum := "5c9b0aa755c5b7aa1eddd23ed6d18bbbabac955283c9b7d5b16d0f7233dfa629", func := "loop.example/capturemonitor/laws.FnPacketSize", spec := "fnPacketSize", apart := false }
def FnPacketSizeSaid : Prop := fnPacketSizeRow.holds Try.pinned (OpenSpec.ofChange fnPacketSizeSpec)

/-- ITS FALSE NEIGHBOUR: 'it returns false'. Refute it at one input. -/
def fnPacketSizeWrong : ChangeSpec := { name := "fnPacketSize", fn := fun _ => fun
  | [d] => { results := [.lit (.bool false)], args := [d] }
  | _ => none }
def FnPacketSizeWrongFalsely : Prop := fnPacketSizeRow.holds Try.pinned (OpenSpec.ofChange fnPacketSizeWrong)

/- THE SECOND FORM. 'bulk': how many values and letters a reading holds, each counted each time it is reached (what is shared counts as often as it is met; a slice's spare places count too). A statement '..UptoSaid' is the law's where the arguments, and the package variables that the reading takes, are together of bulk at most 1048576: NARROWER than '..Said'. Prove '..Said' where nothing that the law and all that it calls make is longer than what came in: it says more and counts as full. Else prove '..UptoSaid'. A law counts once. -/
mutual
def uptoBulk {H : Type} : DataW H → Nat
  | .lit (.string bytes) => bytes.length + 1
  | .lit _ => 1
  | .nil => 1
  | .ptr d => uptoBulk d + 1
  | .slice elems spare => uptoBulkAll elems + uptoBulkAll spare + 1
  | .agg parts => uptoBulkAll parts + 1
  | .iface _ d => uptoBulk d + 1
  | .map entries => uptoBulkEntries entries + 1
  | .held _ => 1
def uptoBulkAll {H : Type} : List (DataW H) → Nat
  | [] => 0
  | d :: r => uptoBulk d + uptoBulkAll r
def uptoBulkEntries {H : Type} : List (Lit × DataW H) → Nat
  | [] => 0
  | x :: r => uptoBulkEntry x + uptoBulkEntries r
def uptoBulkEntry {H : Type} : Lit × DataW H → Nat
  | (.string bytes, d) => bytes.length + uptoBulk d + 1
  | (_, d) => uptoBulk d + 1
 end
def uptoSmall : (H : Type) → List (DataW H) → Bool := fun _ ds => decide (uptoBulkAll ds ≤ 1048576)
def OpenSpec.upto (s : _root_.Go.ChangeSpec) : _root_.Go.OpenSpec := { _root_.Go.OpenSpec.ofChange s with cond := some uptoSmall }

/-- 'laws.FnPacketHead', WHERE WHAT IT READS IS OF BULK AT MOST 1048576: true; the input reads as it did. -/
def fnPacketHeadUptoRow : OpenClaim := { program := "ytfkajcljcbdjiaa", sum := "5c9b0aa755c5b7aa1eddd23ed6d18bbbabac955283c9b7d5b16d0f7233dfa629", func := "loop.example/capturemonitor/laws.FnPacketHead", spec := "fnPacketHead", apart := false, narrowed := true }
def FnPacketHeadUptoSaid : Prop := fnPacketHeadUptoRow.holds Try.pinned (OpenSpec.upto fnPacketHeadSpec)

/-- 'laws.FnExactPacketValid', WHERE WHAT IT READS IS OF BULK AT MOST 1048576: true; the input reads as it did. -/
def fnExactPacketValidUptoRow : OpenClaim := { program := "ytfkajcljcbdjiaa", sum := "5c9b0aa755c5b7aa1eddd23ed6d18bbbabac955283c9b7d5b16d0f7233dfa629", func := "loop.example/capturemonitor/laws.FnExactPacketValid", spec := "fnExactPacketValid", apart := false, narrowed := true }
def FnExactPacketValidUptoSaid : Prop := fnExactPacketValidUptoRow.holds Try.pinned (OpenSpec.upto fnExactPacketValidSpec)

/-- 'laws.FnPacketPart', WHERE WHAT IT READS IS OF BULK AT MOST 1048576: true; the input reads as it did. -/
def fnPacketPartUptoRow : OpenClaim := { program := "ytfkajcljcbdjiaa", sum := "5c9b0aa755c5b7aa1eddd23ed6d18bbbabac955283c9b7d5b16d0f7233dfa629", func := "loop.example/capturemonitor/laws.FnPacketPart", spec := "fnPacketPart", apart := false, narrowed := true }
def FnPacketPartUptoSaid : Prop := fnPacketPartUptoRow.holds Try.pinned (OpenSpec.upto fnPacketPartSpec)

/-- 'laws.FnPacketPorts', WHERE WHAT IT READS IS OF BULK AT MOST 1048576: true; the input reads as it did. -/
def fnPacketPortsUptoRow : OpenClaim := { program := "ytfkajcljcbdjiaa", sum := "5c9b0aa755c5b7aa1eddd23ed6d18bbbabac955283c9b7d5b16d0f7233dfa629", func := "loop.example/capturemonitor/laws.FnPacketPorts", spec := "fnPacketPorts", apart := false, narrowed := true }
def FnPacketPortsUptoSaid : Prop := fnPacketPortsUptoRow.holds Try.pinned (OpenSpec.upto fnPacketPortsSpec)

/-- 'laws.FnExactPacketAlone', WHERE WHAT IT READS IS OF BULK AT MOST 1048576: true; the input reads as it did. -/
def fnExactPacketAloneUptoRow : OpenClaim := { program := "ytfkajcljcbdjiaa", sum := "5c9b0aa755c5b7aa1eddd23ed6d18bbbabac955283c9b7d5b16d0f7233dfa629", func := "loop.example/capturemonitor/laws.FnExactPacketAlone", spec := "fnExactPacketAlone", apart := false, narrowed := true }
def FnExactPacketAloneUptoSaid : Prop := fnExactPacketAloneUptoRow.holds Try.pinned (OpenSpec.upto fnExactPacketAloneSpec)

/-- 'laws.FnPacketAlone', WHERE WHAT IT READS IS OF BULK AT MOST 1048576: true; the input reads as it did. -/
def fnPacketAloneUptoRow : OpenClaim := { program := "ytfkajcljcbdjiaa", sum := "5c9b0aa755c5b7aa1eddd23ed6d18bbbabac955283c9b7d5b16d0f7233dfa629", func := "loop.example/capturemonitor/laws.FnPacketAlone", spec := "fnPacketAlone", apart := false, narrowed := true }
def FnPacketAloneUptoSaid : Prop := fnPacketAloneUptoRow.holds Try.pinned (OpenSpec.upto fnPacketAloneSpec)

/-- 'laws.FnPacketAloneOne', WHERE WHAT IT READS IS OF BULK AT MOST 1048576: true; the input reads as it did. -/
def fnPacketAloneOneUptoRow : OpenClaim := { program := "ytfkajcljcbdjiaa", sum := "5c9b0aa755c5b7aa1eddd23ed6d18bbbabac955283c9b7d5b16d0f7233dfa629", func := "loop.example/capturemonitor/laws.FnPacketAloneOne", spec := "fnPacketAloneOne", apart := false, narrowed := true }
def FnPacketAloneOneUptoSaid : Prop := fnPacketAloneOneUptoRow.holds Try.pinned (OpenSpec.upto fnPacketAloneOneSpec)

/-- 'laws.FnExactPacketPut', WHERE WHAT IT READS IS OF BULK AT MOST 1048576: true; the input reads as it did. -/
def fnExactPacketPutUptoRow : OpenClaim := { program := "ytfkajcljcbdjiaa", sum := "5c9b0aa755c5b7aa1eddd23ed6d18bbbabac955283c9b7d5b16d0f7233dfa629", func := "loop.example/capturemonitor/laws.FnExactPacketPut", spec := "fnExactPacketPut", apart := false, narrowed := true }
def FnExactPacketPutUptoSaid : Prop := fnExactPacketPutUptoRow.holds Try.pinned (OpenSpec.upto fnExactPacketPutSpec)

/-- 'laws.FnPacketPutBad', WHERE WHAT IT READS IS OF BULK AT MOST 1048576: true; the input reads as it did. -/
def fnPacketPutBadUptoRow : OpenClaim := { program := "ytfkajcljcbdjiaa", sum := "5c9b0aa755c5b7aa1eddd23ed6d18bbbabac955283c9b7d5b16d0f7233dfa629", func := "loop.example/capturemonitor/laws.FnPacketPutBad", spec := "fnPacketPutBad", apart := false, narrowed := true }
def FnPacketPutBadUptoSaid : Prop := fnPacketPutBadUptoRow.holds Try.pinned (OpenSpec.upto fnPacketPutBadSpec)

/-- 'laws.FnPacketSize', WHERE WHAT IT READS IS OF BULK AT MOST 1048576: true; the input reads as it did. -/
def fnPacketSizeUptoRow : OpenClaim := { program := "ytfkajcljcbdjiaa", sum := "5c9b0aa755c5b7aa1eddd23ed6d18bbbabac955283c9b7d5b16d0f7233dfa629", func := "loop.example/capturemonitor/laws.FnPacketSize", spec := "fnPacketSize", apart := false, narrowed := true }
def FnPacketSizeUptoSaid : Prop := fnPacketSizeUptoRow.holds Try.pinned (OpenSpec.upto fnPacketSizeSpec)

end Rows
end Go.Proofs.Ytfkajcljcbdjiaa
