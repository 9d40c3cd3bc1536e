/-
  No cell of these rows narrows 'for every input' (looked for: loops, veiled, ifaces, maps, wideKeys, modest, calm, conditions, laid).
  DERIVED. THE GIVEN ROWS OF THIS SEAT. 10 by the template 'for every input the law returns true; each argument reads behind the call as it read before'; 0 by the template 'total and deterministic' (their statements: YtmgmaflfednngaaTotals.lean).
  GIVEN WITH THE SEED: the statements are not yours to turn. If you find one false, say at which input.
  Laid BY PROGRAM, IN A SANDBOX (cutbox-rows.mjs): the forced cells as the released guide's own fill.sh prints them over the translation 66f26a193335d621… (all of the seat's roots in one cut). By AI agents, Wed Nov 11 2026. No macro, syntax, notation, axiom, sorry.
-/
import Derived.Test.YtmgmaflfednngaaChecked
import GoSem.Claim
import GoSem.ClaimJoined
import GoSem.ClaimMapViews
import Derived.JoinedTies
import Derived.KernelRfl
namespace Go.Proofs.Ytmgmaflfednngaa
/- THE CELL 'sum', in the pinned program and in every row, IS THE sha256 OF THE DUMP (.gsa) THAT YtmgmaflfednngaaProg.lean LOADS. Nothing in Lean hashes anything: it is a label: what it is worth is what the hold of that sum in a sandbox is worth. -/
noncomputable def Try.pinned : Pinned := { name := "ytmgmaflfednngaa", sum := "66f26a193335d6210fade260900e723be4a8ed1b9162cdac0a495b312fa8fced", checked := Try.checked }
namespace Rows
def none {H : Type} : Left H := { results := [], args := [] }

/-- 'laws.FnExactRoutesOf': WHATEVER THE INPUT: true; the input reads as it did. -/
def fnExactRoutesOfSpec : ChangeSpec := { name := "fnExactRoutesOf", fn := fun _ => fun
  | [d] => { results := [.lit (.bool true)], args := [d] }
  | _ => none }
def fnExactRoutesOfRow : OpenClaim := { program := "ytmgmaflfednngaa", sum := "66f26a193335d6210fade260900e723be4a8ed1b9162cdac0a495b312fa8fced", func := "loop.example/g00667/laws.FnExactRoutesOf", spec := "fnExactRoutesOf", apart := false }
def FnExactRoutesOfSaid : Prop := fnExactRoutesOfRow.holds Try.pinned (OpenSpec.ofChange fnExactRoutesOfSpec)

/-- ITS FALSE NEIGHBOUR: 'it returns false'. Refute it at one input. -/
def fnExactRoutesOfWrong : ChangeSpec := { name := "fnExactRoutesOf", fn := fun _ => fun
  | [d] => { results := [.lit (.bool false)], args := [d] }
  | _ => none }
def FnExactRoutesOfWrongFalsely : Prop := fnExactRoutesOfRow.holds Try.pinned (OpenSpec.ofChange fnExactRoutesOfWrong)

/-- 'laws.FnExactRibStale': WHATEVER THE INPUT: true; the input reads as it did. -/
def fnExactRibStaleSpec : ChangeSpec := { name := "fnExactRibStale", fn := fun _ => fun
  | [d1, d2] => { results := [.lit (.bool true)], args := [d1, d2] }
  | _ => none }
def fnExactRibStaleRow : OpenClaim := { program := "ytmgmaflfednngaa", sum := "66f26a193335d6210fade260900e723be4a8ed1b9162cdac0a495b312fa8fced", func := "loop.example/g00667/laws.FnExactRibStale", spec := "fnExactRibStale", apart := false }
def FnExactRibStaleSaid : Prop := fnExactRibStaleRow.holds Try.pinned (OpenSpec.ofChange fnExactRibStaleSpec)

/-- ITS FALSE NEIGHBOUR: 'it returns false'. Refute it at one input. -/
def fnExactRibStaleWrong : ChangeSpec := { name := "fnExactRibStale", fn := fun _ => fun
  | [d1, d2] => { results := [.lit (.bool false)], args := [d1, d2] }
  | _ => none }
def FnExactRibStaleWrongFalsely : Prop := fnExactRibStaleRow.holds Try.pinned (OpenSpec.ofChange fnExactRibStaleWrong)

/-- 'laws.FnExactRibSweep': WHATEVER THE INPUT: true; the input reads as it did. -/
def fnExactRibSweepSpec : ChangeSpec := { name := "fnExactRibSweep", fn := fun _ => fun
  | [d1, d2] => { results := [.lit (.bool true)], args := [d1, d2] }
  | _ => none }
def fnExactRibSweepRow : OpenClaim := { program := "ytmgmaflfednngaa", sum := "66f26a193335d6210fade260900e723be4a8ed1b9162cdac0a495b312fa8fced", func := "loop.example/g00667/laws.FnExactRibSweep", spec := "fnExactRibSweep", unfollowed := true, recurses := true, apart := false }
def FnExactRibSweepSaid : Prop := fnExactRibSweepRow.holds Try.pinned (OpenSpec.ofChange fnExactRibSweepSpec)

/-- ITS FALSE NEIGHBOUR: 'it returns false'. Refute it at one input. -/
def fnExactRibSweepWrong : ChangeSpec := { name := "fnExactRibSweep", fn := fun _ => fun
  | [d1, d2] => { results := [.lit (.bool false)], args := [d1, d2] }
  | _ => none }
def FnExactRibSweepWrongFalsely : Prop := fnExactRibSweepRow.holds Try.pinned (OpenSpec.ofChange fnExactRibSweepWrong)

/-- 'laws.FnExactRibTake': WHATEVER THE INPUT: true; the input reads as it did. -/
def fnExactRibTakeSpec : ChangeSpec := { name := "fnExactRibTake", fn := fun _ => fun
  | [d1, d2, d3] => { results := [.lit (.bool true)], args := [d1, d2, d3] }
  | _ => none }
def fnExactRibTakeRow : OpenClaim := { program := "ytmgmaflfednngaa", sum := "66f26a193335d6210fade260900e723be4a8ed1b9162cdac0a495b312fa8fced", func := "loop.example/g00667/laws.FnExactRibTake", spec := "fnExactRibTake", unfollowed := true, recurses := true, apart := false }
def FnExactRibTakeSaid : Prop := fnExactRibTakeRow.holds Try.pinned (OpenSpec.ofChange fnExactRibTakeSpec)

/-- ITS FALSE NEIGHBOUR: 'it returns false'. Refute it at one input. -/
def fnExactRibTakeWrong : ChangeSpec := { name := "fnExactRibTake", fn := fun _ => fun
  | [d1, d2, d3] => { results := [.lit (.bool false)], args := [d1, d2, d3] }
  | _ => none }
def FnExactRibTakeWrongFalsely : Prop := fnExactRibTakeRow.holds Try.pinned (OpenSpec.ofChange fnExactRibTakeWrong)

/-- 'laws.FnExactRibPut': WHATEVER THE INPUT: true; the input reads as it did. -/
def fnExactRibPutSpec : ChangeSpec := { name := "fnExactRibPut", fn := fun _ => fun
  | [d1, d2, d3] => { results := [.lit (.bool true)], args := [d1, d2, d3] }
  | _ => none }
def fnExactRibPutRow : OpenClaim := { program := "ytmgmaflfednngaa", sum := "66f26a193335d6210fade260900e723be4a8ed1b9162cdac0a495b312fa8fced", func := "loop.example/g00667/laws.FnExactRibPut", spec := "fnExactRibPut", inPlace := ["slices.overlaps[loop.example/g00667/impl.Held]"], unfollowed := true, recurses := true, apart := false }
def FnExactRibPutSaid : Prop := fnExactRibPutRow.holds Try.pinned (OpenSpec.ofChange fnExactRibPutSpec)

/-- ITS FALSE NEIGHBOUR: 'it returns false'. Refute it at one input. -/
def fnExactRibPutWrong : ChangeSpec := { name := "fnExactRibPut", fn := fun _ => fun
  | [d1, d2, d3] => { results := [.lit (.bool false)], args := [d1, d2, d3] }
  | _ => none }
def FnExactRibPutWrongFalsely : Prop := fnExactRibPutRow.holds Try.pinned (OpenSpec.ofChange fnExactRibPutWrong)

/-- 'laws.FnExactRoomsOf': WHATEVER THE INPUT: true; the input reads as it did. -/
def fnExactRoomsOfSpec : ChangeSpec := { name := "fnExactRoomsOf", fn := fun _ => fun
  | [d1, d2, d3] => { results := [.lit (.bool true)], args := [d1, d2, d3] }
  | _ => none }
def fnExactRoomsOfRow : OpenClaim := { program := "ytmgmaflfednngaa", sum := "66f26a193335d6210fade260900e723be4a8ed1b9162cdac0a495b312fa8fced", func := "loop.example/g00667/laws.FnExactRoomsOf", spec := "fnExactRoomsOf", recurses := true, apart := false }
def FnExactRoomsOfSaid : Prop := fnExactRoomsOfRow.holds Try.pinned (OpenSpec.ofChange fnExactRoomsOfSpec)

/-- ITS FALSE NEIGHBOUR: 'it returns false'. Refute it at one input. -/
def fnExactRoomsOfWrong : ChangeSpec := { name := "fnExactRoomsOf", fn := fun _ => fun
  | [d1, d2, d3] => { results := [.lit (.bool false)], args := [d1, d2, d3] }
  | _ => none }
def FnExactRoomsOfWrongFalsely : Prop := fnExactRoomsOfRow.holds Try.pinned (OpenSpec.ofChange fnExactRoomsOfWrong)

/-- 'laws.FnExactToldTo': WHATEVER THE INPUT: true; the input reads as it did. -/
def fnExactToldToSpec : ChangeSpec := { name := "fnExactToldTo", fn := fun _ => fun
  | [d1, d2] => { results := [.lit (.bool true)], args := [d1, d2] }
  | _ => none }
def fnExactToldToRow : OpenClaim := { program := "ytmgmaflfednngaa", sum := "66f26a193335d6210fade260900e723be4a8ed1b9162cdac0a495b312fa8fced", func := "loop.example/g00667/laws.FnExactToldTo", spec := "fnExactToldTo", unfollowed := true, recurses := true, apart := false }
def FnExactToldToSaid : Prop := fnExactToldToRow.holds Try.pinned (OpenSpec.ofChange fnExactToldToSpec)

/-- ITS FALSE NEIGHBOUR: 'it returns false'. Refute it at one input. -/
def fnExactToldToWrong : ChangeSpec := { name := "fnExactToldTo", fn := fun _ => fun
  | [d1, d2] => { results := [.lit (.bool false)], args := [d1, d2] }
  | _ => none }
def FnExactToldToWrongFalsely : Prop := fnExactToldToRow.holds Try.pinned (OpenSpec.ofChange fnExactToldToWrong)

/-- 'laws.FnExactTellerRight': WHATEVER THE INPUT: true; the input reads as it did. -/
def fnExactTellerRightSpec : ChangeSpec := { name := "fnExactTellerRight", fn := fun _ => fun
  | [d] => { results := [.lit (.bool true)], args := [d] }
  | _ => none }
def fnExactTellerRightRow : OpenClaim := { program := "ytmgmaflfednngaa", sum := "66f26a193335d6210fade260900e723be4a8ed1b9162cdac0a495b312fa8fced", func := "loop.example/g00667/laws.FnExactTellerRight", spec := "fnExactTellerRight", unfollowed := true, recurses := true, apart := false }
def FnExactTellerRightSaid : Prop := fnExactTellerRightRow.holds Try.pinned (OpenSpec.ofChange fnExactTellerRightSpec)

/-- ITS FALSE NEIGHBOUR: 'it returns false'. Refute it at one input. -/
def fnExactTellerRightWrong : ChangeSpec := { name := "fnExactTellerRight", fn := fun _ => fun
  | [d] => { results := [.lit (.bool false)], args := [d] }
  | _ => none }
def FnExactTellerRightWrongFalsely : Prop := fnExactTellerRightRow.holds Try.pinned (OpenSpec.ofChange fnExactTellerRightWrong)

/-- 'laws.FnExactTellerNew': WHATEVER THE INPUT: true; the input reads as it did. -/
def fnExactTellerNewSpec : ChangeSpec := { name := "fnExactTellerNew", fn := fun _ => fun
  | [d1, d2, d3] => { results := [.lit (.bool true)], args := [d1, d2, d3] }
  | _ => none }
def fnExactTellerNewRow : OpenClaim := { program := "ytmgmaflfednngaa", sum := "66f26a193335d6210fade260900e723be4a8ed1b9162cdac0a495b312fa8fced", func := "loop.example/g00667/laws.FnExactTellerNew", spec := "fnExactTellerNew", unfollowed := true, recurses := true, apart := false }
def FnExactTellerNewSaid : Prop := fnExactTellerNewRow.holds Try.pinned (OpenSpec.ofChange fnExactTellerNewSpec)

/-- ITS FALSE NEIGHBOUR: 'it returns false'. Refute it at one input. -/
def fnExactTellerNewWrong : ChangeSpec := { name := "fnExactTellerNew", fn := fun _ => fun
  | [d1, d2, d3] => { results := [.lit (.bool false)], args := [d1, d2, d3] }
  | _ => none }
def FnExactTellerNewWrongFalsely : Prop := fnExactTellerNewRow.holds Try.pinned (OpenSpec.ofChange fnExactTellerNewWrong)

/-- 'laws.FnExactTellerRestart': WHATEVER THE INPUT: true; the input reads as it did. -/
def fnExactTellerRestartSpec : ChangeSpec := { name := "fnExactTellerRestart", fn := fun _ => fun
  | [d] => { results := [.lit (.bool true)], args := [d] }
  | _ => none }
def fnExactTellerRestartRow : OpenClaim := { program := "ytmgmaflfednngaa", sum := "66f26a193335d6210fade260900e723be4a8ed1b9162cdac0a495b312fa8fced", func := "loop.example/g00667/laws.FnExactTellerRestart", spec := "fnExactTellerRestart", unfollowed := true, recurses := true, apart := false }
def FnExactTellerRestartSaid : Prop := fnExactTellerRestartRow.holds Try.pinned (OpenSpec.ofChange fnExactTellerRestartSpec)

/-- ITS FALSE NEIGHBOUR: 'it returns false'. Refute it at one input. -/
def fnExactTellerRestartWrong : ChangeSpec := { name := "fnExactTellerRestart", fn := fun _ => fun
  | [d] => { results := [.lit (.bool false)], args := [d] }
  | _ => none }
def FnExactTellerRestartWrongFalsely : Prop := fnExactTellerRestartRow.holds Try.pinned (OpenSpec.ofChange fnExactTellerRestartWrong)

/- THE SECOND FORM. 'bulk': how many values and letters a reading holds, each counted each time it is reached (what is shared counts as often as it is met; a slice's spare places count too). A statement '..UptoSaid' is the law's where the arguments, and the package variables that the reading takes, are together of bulk at most 1048576: NARROWER than '..Said'. Prove '..Said' where nothing that the law and all that it calls make is longer than what came in: it says more and counts as full. Else prove '..UptoSaid'. A law counts once. -/
mutual
def uptoBulk {H : Type} : DataW H → Nat
  | .lit (.string bytes) => bytes.length + 1
  | .lit _ => 1
  | .nil => 1
  | .ptr d => uptoBulk d + 1
  | .slice elems spare => uptoBulkAll elems + uptoBulkAll spare + 1
  | .agg parts => uptoBulkAll parts + 1
  | .iface _ d => uptoBulk d + 1
  | .map entries => uptoBulkEntries entries + 1
  | .held _ => 1
def uptoBulkAll {H : Type} : List (DataW H) → Nat
  | [] => 0
  | d :: r => uptoBulk d + uptoBulkAll r
def uptoBulkEntries {H : Type} : List (Lit × DataW H) → Nat
  | [] => 0
  | x :: r => uptoBulkEntry x + uptoBulkEntries r
def uptoBulkEntry {H : Type} : Lit × DataW H → Nat
  | (.string bytes, d) => bytes.length + uptoBulk d + 1
  | (_, d) => uptoBulk d + 1
 end
def uptoSmall : (H : Type) → List (DataW H) → Bool := fun _ ds => decide (uptoBulkAll ds ≤ 1048576)
def OpenSpec.upto (s : _root_.Go.ChangeSpec) : _root_.Go.OpenSpec := { _root_.Go.OpenSpec.ofChange s with cond := some uptoSmall }

/-- 'laws.FnExactRoutesOf', WHERE WHAT IT READS IS OF BULK AT MOST 1048576: true; the input reads as it did. -/
def fnExactRoutesOfUptoRow : OpenClaim := { program := "ytmgmaflfednngaa", sum := "66f26a193335d6210fade260900e723be4a8ed1b9162cdac0a495b312fa8fced", func := "loop.example/g00667/laws.FnExactRoutesOf", spec := "fnExactRoutesOf", apart := false, narrowed := true }
def FnExactRoutesOfUptoSaid : Prop := fnExactRoutesOfUptoRow.holds Try.pinned (OpenSpec.upto fnExactRoutesOfSpec)

/-- 'laws.FnExactRibStale', WHERE WHAT IT READS IS OF BULK AT MOST 1048576: true; the input reads as it did. -/
def fnExactRibStaleUptoRow : OpenClaim := { program := "ytmgmaflfednngaa", sum := "66f26a193335d6210fade260900e723be4a8ed1b9162cdac0a495b312fa8fced", func := "loop.example/g00667/laws.FnExactRibStale", spec := "fnExactRibStale", apart := false, narrowed := true }
def FnExactRibStaleUptoSaid : Prop := fnExactRibStaleUptoRow.holds Try.pinned (OpenSpec.upto fnExactRibStaleSpec)

/-- 'laws.FnExactRibSweep', WHERE WHAT IT READS IS OF BULK AT MOST 1048576: true; the input reads as it did. -/
def fnExactRibSweepUptoRow : OpenClaim := { program := "ytmgmaflfednngaa", sum := "66f26a193335d6210fade260900e723be4a8ed1b9162cdac0a495b312fa8fced", func := "loop.example/g00667/laws.FnExactRibSweep", spec := "fnExactRibSweep", unfollowed := true, recurses := true, apart := false, narrowed := true }
def FnExactRibSweepUptoSaid : Prop := fnExactRibSweepUptoRow.holds Try.pinned (OpenSpec.upto fnExactRibSweepSpec)

/-- 'laws.FnExactRibTake', WHERE WHAT IT READS IS OF BULK AT MOST 1048576: true; the input reads as it did. -/
def fnExactRibTakeUptoRow : OpenClaim := { program := "ytmgmaflfednngaa", sum := "66f26a193335d6210fade260900e723be4a8ed1b9162cdac0a495b312fa8fced", func := "loop.example/g00667/laws.FnExactRibTake", spec := "fnExactRibTake", unfollowed := true, recurses := true, apart := false, narrowed := true }
def FnExactRibTakeUptoSaid : Prop := fnExactRibTakeUptoRow.holds Try.pinned (OpenSpec.upto fnExactRibTakeSpec)

/-- 'laws.FnExactRibPut', WHERE WHAT IT READS IS OF BULK AT MOST 1048576: true; the input reads as it did. -/
def fnExactRibPutUptoRow : OpenClaim := { program := "ytmgmaflfednngaa", sum := "66f26a193335d6210fade260900e723be4a8ed1b9162cdac0a495b312fa8fced", func := "loop.example/g00667/laws.FnExactRibPut", spec := "fnExactRibPut", inPlace := ["slices.overlaps[loop.example/g00667/impl.Held]"], unfollowed := true, recurses := true, apart := false, narrowed := true }
def FnExactRibPutUptoSaid : Prop := fnExactRibPutUptoRow.holds Try.pinned (OpenSpec.upto fnExactRibPutSpec)

/-- 'laws.FnExactRoomsOf', WHERE WHAT IT READS IS OF BULK AT MOST 1048576: true; the input reads as it did. -/
def fnExactRoomsOfUptoRow : OpenClaim := { program := "ytmgmaflfednngaa", sum := "66f26a193335d6210fade260900e723be4a8ed1b9162cdac0a495b312fa8fced", func := "loop.example/g00667/laws.FnExactRoomsOf", spec := "fnExactRoomsOf", recurses := true, apart := false, narrowed := true }
def FnExactRoomsOfUptoSaid : Prop := fnExactRoomsOfUptoRow.holds Try.pinned (OpenSpec.upto fnExactRoomsOfSpec)

/-- 'laws.FnExactToldTo', WHERE WHAT IT READS IS OF BULK AT MOST 1048576: true; the input reads as it did. -/
def fnExactToldToUptoRow : OpenClaim := { program := "ytmgmaflfednngaa", sum := "66f26a193335d6210fade260900e723be4a8ed1b9162cdac0a495b312fa8fced", func := "loop.example/g00667/laws.FnExactToldTo", spec := "fnExactToldTo", unfollowed := true, recurses := true, apart := false, narrowed := true }
def FnExactToldToUptoSaid : Prop := fnExactToldToUptoRow.holds Try.pinned (OpenSpec.upto fnExactToldToSpec)

/-- 'laws.FnExactTellerRight', WHERE WHAT IT READS IS OF BULK AT MOST 1048576: true; the input reads as it did. -/
def fnExactTellerRightUptoRow : OpenClaim := { program := "ytmgmaflfednngaa", sum := "66f26a193335d6210fade260900e723be4a8ed1b9162cdac0a495b312fa8fced", func := "loop.example/g00667/laws.FnExactTellerRight", spec := "fnExactTellerRight", unfollowed := true, recurses := true, apart := false, narrowed := true }
def FnExactTellerRightUptoSaid : Prop := fnExactTellerRightUptoRow.holds Try.pinned (OpenSpec.upto fnExactTellerRightSpec)

/-- 'laws.FnExactTellerNew', WHERE WHAT IT READS IS OF BULK AT MOST 1048576: true; the input reads as it did. -/
def fnExactTellerNewUptoRow : OpenClaim := { program := "ytmgmaflfednngaa", sum := "66f26a193335d6210fade260900e723be4a8ed1b9162cdac0a495b312fa8fced", func := "loop.example/g00667/laws.FnExactTellerNew", spec := "fnExactTellerNew", unfollowed := true, recurses := true, apart := false, narrowed := true }
def FnExactTellerNewUptoSaid : Prop := fnExactTellerNewUptoRow.holds Try.pinned (OpenSpec.upto fnExactTellerNewSpec)

/-- 'laws.FnExactTellerRestart', WHERE WHAT IT READS IS OF BULK AT MOST 1048576: true; the input reads as it did. -/
def fnExactTellerRestartUptoRow : OpenClaim := { program := "ytmgmaflfednngaa", sum := "66f26a193335d6210fade260900e723be4a8ed1b9162cdac0a495b312fa8fced", func := "loop.example/g00667/laws.FnExactTellerRestart", spec := "fnExactTellerRestart", unfollowed := true, recurses := true, apart := false, narrowed := true }
def FnExactTellerRestartUptoSaid : Prop := fnExactTellerRestartUptoRow.holds Try.pinned (OpenSpec.upto fnExactTellerRestartSpec)

end Rows
end Go.Proofs.Ytmgmaflfednngaa
