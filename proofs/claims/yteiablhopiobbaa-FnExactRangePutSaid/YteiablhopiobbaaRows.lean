/-
  No cell of these rows narrows 'for every input' (looked for: loops, veiled, ifaces, maps, wideKeys, modest, calm, conditions, laid).
  DERIVED. THE GIVEN ROWS OF THIS SEAT. 9 by the template 'for every input the law returns true; each argument reads behind the call as it read before'; 0 by the template 'total and deterministic' (their statements: YteiablhopiobbaaTotals.lean).
  GIVEN WITH THE SEED: the statements are not yours to turn. If you find one false, say at which input.
  Laid BY PROGRAM, IN A SANDBOX (cutbox-rows.mjs): the forced cells as the released guide's own fill.sh prints them over the translation 84040c74034f3dd2… (all of the seat's roots in one cut). By AI agents, Wed Nov 11 2026. No macro, syntax, notation, axiom, sorry.
-/
import Derived.Test.YteiablhopiobbaaChecked
import GoSem.Claim
import GoSem.ClaimJoined
import GoSem.ClaimMapViews
import Derived.JoinedTies
import Derived.KernelRfl
namespace Go.Proofs.Yteiablhopiobbaa
/- THE CELL 'sum', in the pinned program and in every row, IS THE sha256 OF THE DUMP (.gsa) THAT YteiablhopiobbaaProg.lean LOADS. Nothing in Lean hashes anything: it is a label: what it is worth is what the hold of that sum in a sandbox is worth. -/
noncomputable def Try.pinned : Pinned := { name := "yteiablhopiobbaa", sum := "84040c74034f3dd28fa9383fc86539e166685d4c5e68ea1b8fd991eed6f9c50c", checked := Try.checked }
namespace Rows
def none {H : Type} : Left H := { results := [], args := [] }

/-- 'laws.FnExactPackRead': WHATEVER THE INPUT: true; the input reads as it did. -/
def fnExactPackReadSpec : ChangeSpec := { name := "fnExactPackRead", fn := fun _ => fun
  | [d] => { results := [.lit (.bool true)], args := [d] }
  | _ => none }
def fnExactPackReadRow : OpenClaim := { program := "yteiablhopiobbaa", sum := "84040c74034f3dd28fa9383fc86539e166685d4c5e68ea1b8fd991eed6f9c50c", func := "loop.example/g00667/laws.FnExactPackRead", spec := "fnExactPackRead", apart := false }
def FnExactPackReadSaid : Prop := fnExactPackReadRow.holds Try.pinned (OpenSpec.ofChange fnExactPackReadSpec)

/-- ITS FALSE NEIGHBOUR: 'it returns false'. Refute it at one input. -/
def fnExactPackReadWrong : ChangeSpec := { name := "fnExactPackRead", fn := fun _ => fun
  | [d] => { results := [.lit (.bool false)], args := [d] }
  | _ => none }
def FnExactPackReadWrongFalsely : Prop := fnExactPackReadRow.holds Try.pinned (OpenSpec.ofChange fnExactPackReadWrong)

/-- 'laws.FnExactArpRead': WHATEVER THE INPUT: true; the input reads as it did. -/
def fnExactArpReadSpec : ChangeSpec := { name := "fnExactArpRead", fn := fun _ => fun
  | [d] => { results := [.lit (.bool true)], args := [d] }
  | _ => none }
def fnExactArpReadRow : OpenClaim := { program := "yteiablhopiobbaa", sum := "84040c74034f3dd28fa9383fc86539e166685d4c5e68ea1b8fd991eed6f9c50c", func := "loop.example/g00667/laws.FnExactArpRead", spec := "fnExactArpRead", apart := false }
def FnExactArpReadSaid : Prop := fnExactArpReadRow.holds Try.pinned (OpenSpec.ofChange fnExactArpReadSpec)

/-- ITS FALSE NEIGHBOUR: 'it returns false'. Refute it at one input. -/
def fnExactArpReadWrong : ChangeSpec := { name := "fnExactArpRead", fn := fun _ => fun
  | [d] => { results := [.lit (.bool false)], args := [d] }
  | _ => none }
def FnExactArpReadWrongFalsely : Prop := fnExactArpReadRow.holds Try.pinned (OpenSpec.ofChange fnExactArpReadWrong)

/-- 'laws.FnExactRulesRight': WHATEVER THE INPUT: true; the input reads as it did. -/
def fnExactRulesRightSpec : ChangeSpec := { name := "fnExactRulesRight", fn := fun _ => fun
  | [d] => { results := [.lit (.bool true)], args := [d] }
  | _ => none }
def fnExactRulesRightRow : OpenClaim := { program := "yteiablhopiobbaa", sum := "84040c74034f3dd28fa9383fc86539e166685d4c5e68ea1b8fd991eed6f9c50c", func := "loop.example/g00667/laws.FnExactRulesRight", spec := "fnExactRulesRight", apart := false }
def FnExactRulesRightSaid : Prop := fnExactRulesRightRow.holds Try.pinned (OpenSpec.ofChange fnExactRulesRightSpec)

/-- ITS FALSE NEIGHBOUR: 'it returns false'. Refute it at one input. -/
def fnExactRulesRightWrong : ChangeSpec := { name := "fnExactRulesRight", fn := fun _ => fun
  | [d] => { results := [.lit (.bool false)], args := [d] }
  | _ => none }
def FnExactRulesRightWrongFalsely : Prop := fnExactRulesRightRow.holds Try.pinned (OpenSpec.ofChange fnExactRulesRightWrong)

/-- 'laws.FnExactRoomOf': WHATEVER THE INPUT: true; the input reads as it did. -/
def fnExactRoomOfSpec : ChangeSpec := { name := "fnExactRoomOf", fn := fun _ => fun
  | [d1, d2] => { results := [.lit (.bool true)], args := [d1, d2] }
  | _ => none }
def fnExactRoomOfRow : OpenClaim := { program := "yteiablhopiobbaa", sum := "84040c74034f3dd28fa9383fc86539e166685d4c5e68ea1b8fd991eed6f9c50c", func := "loop.example/g00667/laws.FnExactRoomOf", spec := "fnExactRoomOf", apart := false }
def FnExactRoomOfSaid : Prop := fnExactRoomOfRow.holds Try.pinned (OpenSpec.ofChange fnExactRoomOfSpec)

/-- ITS FALSE NEIGHBOUR: 'it returns false'. Refute it at one input. -/
def fnExactRoomOfWrong : ChangeSpec := { name := "fnExactRoomOf", fn := fun _ => fun
  | [d1, d2] => { results := [.lit (.bool false)], args := [d1, d2] }
  | _ => none }
def FnExactRoomOfWrongFalsely : Prop := fnExactRoomOfRow.holds Try.pinned (OpenSpec.ofChange fnExactRoomOfWrong)

/-- 'laws.FnExactRangeDrop': WHATEVER THE INPUT: true; the input reads as it did. -/
def fnExactRangeDropSpec : ChangeSpec := { name := "fnExactRangeDrop", fn := fun _ => fun
  | [d1, d2] => { results := [.lit (.bool true)], args := [d1, d2] }
  | _ => none }
def fnExactRangeDropRow : OpenClaim := { program := "yteiablhopiobbaa", sum := "84040c74034f3dd28fa9383fc86539e166685d4c5e68ea1b8fd991eed6f9c50c", func := "loop.example/g00667/laws.FnExactRangeDrop", spec := "fnExactRangeDrop", apart := false }
def FnExactRangeDropSaid : Prop := fnExactRangeDropRow.holds Try.pinned (OpenSpec.ofChange fnExactRangeDropSpec)

/-- ITS FALSE NEIGHBOUR: 'it returns false'. Refute it at one input. -/
def fnExactRangeDropWrong : ChangeSpec := { name := "fnExactRangeDrop", fn := fun _ => fun
  | [d1, d2] => { results := [.lit (.bool false)], args := [d1, d2] }
  | _ => none }
def FnExactRangeDropWrongFalsely : Prop := fnExactRangeDropRow.holds Try.pinned (OpenSpec.ofChange fnExactRangeDropWrong)

/-- 'laws.FnExactRangePut': WHATEVER THE INPUT: true; the input reads as it did. -/
def fnExactRangePutSpec : ChangeSpec := { name := "fnExactRangePut", fn := fun _ => fun
  | [d1, d2] => { results := [.lit (.bool true)], args := [d1, d2] }
  | _ => none }
def fnExactRangePutRow : OpenClaim := { program := "yteiablhopiobbaa", sum := "84040c74034f3dd28fa9383fc86539e166685d4c5e68ea1b8fd991eed6f9c50c", func := "loop.example/g00667/laws.FnExactRangePut", spec := "fnExactRangePut", inPlace := ["slices.overlaps[loop.example/g00667/impl.Range]"], unfollowed := true, recurses := true, apart := false }
def FnExactRangePutSaid : Prop := fnExactRangePutRow.holds Try.pinned (OpenSpec.ofChange fnExactRangePutSpec)

/-- ITS FALSE NEIGHBOUR: 'it returns false'. Refute it at one input. -/
def fnExactRangePutWrong : ChangeSpec := { name := "fnExactRangePut", fn := fun _ => fun
  | [d1, d2] => { results := [.lit (.bool false)], args := [d1, d2] }
  | _ => none }
def FnExactRangePutWrongFalsely : Prop := fnExactRangePutRow.holds Try.pinned (OpenSpec.ofChange fnExactRangePutWrong)

/-- 'laws.FnExactTidy': WHATEVER THE INPUT: true; the input reads as it did. -/
def fnExactTidySpec : ChangeSpec := { name := "fnExactTidy", fn := fun _ => fun
  | [d] => { results := [.lit (.bool true)], args := [d] }
  | _ => none }
def fnExactTidyRow : OpenClaim := { program := "yteiablhopiobbaa", sum := "84040c74034f3dd28fa9383fc86539e166685d4c5e68ea1b8fd991eed6f9c50c", func := "loop.example/g00667/laws.FnExactTidy", spec := "fnExactTidy", inPlace := ["slices.overlaps[loop.example/g00667/impl.Range]"], unfollowed := true, recurses := true, apart := false }
def FnExactTidySaid : Prop := fnExactTidyRow.holds Try.pinned (OpenSpec.ofChange fnExactTidySpec)

/-- ITS FALSE NEIGHBOUR: 'it returns false'. Refute it at one input. -/
def fnExactTidyWrong : ChangeSpec := { name := "fnExactTidy", fn := fun _ => fun
  | [d] => { results := [.lit (.bool false)], args := [d] }
  | _ => none }
def FnExactTidyWrongFalsely : Prop := fnExactTidyRow.holds Try.pinned (OpenSpec.ofChange fnExactTidyWrong)

/-- 'laws.FnFrames': WHATEVER THE INPUT: true; the input reads as it did. -/
def fnFramesSpec : ChangeSpec := { name := "fnFrames", fn := fun _ => fun
  | [d1, d2] => { results := [.lit (.bool true)], args := [d1, d2] }
  | _ => none }
def fnFramesRow : OpenClaim := { program := "yteiablhopiobbaa", sum := "84040c74034f3dd28fa9383fc86539e166685d4c5e68ea1b8fd991eed6f9c50c", func := "loop.example/g00667/laws.FnFrames", spec := "fnFrames", apart := false }
def FnFramesSaid : Prop := fnFramesRow.holds Try.pinned (OpenSpec.ofChange fnFramesSpec)

/-- ITS FALSE NEIGHBOUR: 'it returns false'. Refute it at one input. -/
def fnFramesWrong : ChangeSpec := { name := "fnFrames", fn := fun _ => fun
  | [d1, d2] => { results := [.lit (.bool false)], args := [d1, d2] }
  | _ => none }
def FnFramesWrongFalsely : Prop := fnFramesRow.holds Try.pinned (OpenSpec.ofChange fnFramesWrong)

/-- 'laws.FnTidy': WHATEVER THE INPUT: true; the input reads as it did. -/
def fnTidySpec : ChangeSpec := { name := "fnTidy", fn := fun _ => fun
  | [d1, d2] => { results := [.lit (.bool true)], args := [d1, d2] }
  | _ => none }
def fnTidyRow : OpenClaim := { program := "yteiablhopiobbaa", sum := "84040c74034f3dd28fa9383fc86539e166685d4c5e68ea1b8fd991eed6f9c50c", func := "loop.example/g00667/laws.FnTidy", spec := "fnTidy", inPlace := ["slices.overlaps[loop.example/g00667/impl.Range]"], unfollowed := true, recurses := true, apart := false }
def FnTidySaid : Prop := fnTidyRow.holds Try.pinned (OpenSpec.ofChange fnTidySpec)

/-- ITS FALSE NEIGHBOUR: 'it returns false'. Refute it at one input. -/
def fnTidyWrong : ChangeSpec := { name := "fnTidy", fn := fun _ => fun
  | [d1, d2] => { results := [.lit (.bool false)], args := [d1, d2] }
  | _ => none }
def FnTidyWrongFalsely : Prop := fnTidyRow.holds Try.pinned (OpenSpec.ofChange fnTidyWrong)

/- THE SECOND FORM. 'bulk': how many values and letters a reading holds, each counted each time it is reached (what is shared counts as often as it is met; a slice's spare places count too). A statement '..UptoSaid' is the law's where the arguments, and the package variables that the reading takes, are together of bulk at most 1048576: NARROWER than '..Said'. Prove '..Said' where nothing that the law and all that it calls make is longer than what came in: it says more and counts as full. Else prove '..UptoSaid'. A law counts once. -/
mutual
def uptoBulk {H : Type} : DataW H → Nat
  | .lit (.string bytes) => bytes.length + 1
  | .lit _ => 1
  | .nil => 1
  | .ptr d => uptoBulk d + 1
  | .slice elems spare => uptoBulkAll elems + uptoBulkAll spare + 1
  | .agg parts => uptoBulkAll parts + 1
  | .iface _ d => uptoBulk d + 1
  | .map entries => uptoBulkEntries entries + 1
  | .held _ => 1
def uptoBulkAll {H : Type} : List (DataW H) → Nat
  | [] => 0
  | d :: r => uptoBulk d + uptoBulkAll r
def uptoBulkEntries {H : Type} : List (Lit × DataW H) → Nat
  | [] => 0
  | x :: r => uptoBulkEntry x + uptoBulkEntries r
def uptoBulkEntry {H : Type} : Lit × DataW H → Nat
  | (.string bytes, d) => bytes.length + uptoBulk d + 1
  | (_, d) => uptoBulk d + 1
 end
def uptoSmall : (H : Type) → List (DataW H) → Bool := fun _ ds => decide (uptoBulkAll ds ≤ 1048576)
def OpenSpec.upto (s : _root_.Go.ChangeSpec) : _root_.Go.OpenSpec := { _root_.Go.OpenSpec.ofChange s with cond := some uptoSmall }

/-- 'laws.FnExactPackRead', WHERE WHAT IT READS IS OF BULK AT MOST 1048576: true; the input reads as it did. -/
def fnExactPackReadUptoRow : OpenClaim := { program := "yteiablhopiobbaa", sum := "84040c74034f3dd28fa9383fc86539e166685d4c5e68ea1b8fd991eed6f9c50c", func := "loop.example/g00667/laws.FnExactPackRead", spec := "fnExactPackRead", apart := false, narrowed := true }
def FnExactPackReadUptoSaid : Prop := fnExactPackReadUptoRow.holds Try.pinned (OpenSpec.upto fnExactPackReadSpec)

/-- 'laws.FnExactArpRead', WHERE WHAT IT READS IS OF BULK AT MOST 1048576: true; the input reads as it did. -/
def fnExactArpReadUptoRow : OpenClaim := { program := "yteiablhopiobbaa", sum := "84040c74034f3dd28fa9383fc86539e166685d4c5e68ea1b8fd991eed6f9c50c", func := "loop.example/g00667/laws.FnExactArpRead", spec := "fnExactArpRead", apart := false, narrowed := true }
def FnExactArpReadUptoSaid : Prop := fnExactArpReadUptoRow.holds Try.pinned (OpenSpec.upto fnExactArpReadSpec)

/-- 'laws.FnExactRulesRight', WHERE WHAT IT READS IS OF BULK AT MOST 1048576: true; the input reads as it did. -/
def fnExactRulesRightUptoRow : OpenClaim := { program := "yteiablhopiobbaa", sum := "84040c74034f3dd28fa9383fc86539e166685d4c5e68ea1b8fd991eed6f9c50c", func := "loop.example/g00667/laws.FnExactRulesRight", spec := "fnExactRulesRight", apart := false, narrowed := true }
def FnExactRulesRightUptoSaid : Prop := fnExactRulesRightUptoRow.holds Try.pinned (OpenSpec.upto fnExactRulesRightSpec)

/-- 'laws.FnExactRoomOf', WHERE WHAT IT READS IS OF BULK AT MOST 1048576: true; the input reads as it did. -/
def fnExactRoomOfUptoRow : OpenClaim := { program := "yteiablhopiobbaa", sum := "84040c74034f3dd28fa9383fc86539e166685d4c5e68ea1b8fd991eed6f9c50c", func := "loop.example/g00667/laws.FnExactRoomOf", spec := "fnExactRoomOf", apart := false, narrowed := true }
def FnExactRoomOfUptoSaid : Prop := fnExactRoomOfUptoRow.holds Try.pinned (OpenSpec.upto fnExactRoomOfSpec)

/-- 'laws.FnExactRangeDrop', WHERE WHAT IT READS IS OF BULK AT MOST 1048576: true; the input reads as it did. -/
def fnExactRangeDropUptoRow : OpenClaim := { program := "yteiablhopiobbaa", sum := "84040c74034f3dd28fa9383fc86539e166685d4c5e68ea1b8fd991eed6f9c50c", func := "loop.example/g00667/laws.FnExactRangeDrop", spec := "fnExactRangeDrop", apart := false, narrowed := true }
def FnExactRangeDropUptoSaid : Prop := fnExactRangeDropUptoRow.holds Try.pinned (OpenSpec.upto fnExactRangeDropSpec)

/-- 'laws.FnExactRangePut', WHERE WHAT IT READS IS OF BULK AT MOST 1048576: true; the input reads as it did. -/
def fnExactRangePutUptoRow : OpenClaim := { program := "yteiablhopiobbaa", sum := "84040c74034f3dd28fa9383fc86539e166685d4c5e68ea1b8fd991eed6f9c50c", func := "loop.example/g00667/laws.FnExactRangePut", spec := "fnExactRangePut", inPlace := ["slices.overlaps[loop.example/g00667/impl.Range]"], unfollowed := true, recurses := true, apart := false, narrowed := true }
def FnExactRangePutUptoSaid : Prop := fnExactRangePutUptoRow.holds Try.pinned (OpenSpec.upto fnExactRangePutSpec)

/-- 'laws.FnExactTidy', WHERE WHAT IT READS IS OF BULK AT MOST 1048576: true; the input reads as it did. -/
def fnExactTidyUptoRow : OpenClaim := { program := "yteiablhopiobbaa", sum := "84040c74034f3dd28fa9383fc86539e166685d4c5e68ea1b8fd991eed6f9c50c", func := "loop.example/g00667/laws.FnExactTidy", spec := "fnExactTidy", inPlace := ["slices.overlaps[loop.example/g00667/impl.Range]"], unfollowed := true, recurses := true, apart := false, narrowed := true }
def FnExactTidyUptoSaid : Prop := fnExactTidyUptoRow.holds Try.pinned (OpenSpec.upto fnExactTidySpec)

/-- 'laws.FnFrames', WHERE WHAT IT READS IS OF BULK AT MOST 1048576: true; the input reads as it did. -/
def fnFramesUptoRow : OpenClaim := { program := "yteiablhopiobbaa", sum := "84040c74034f3dd28fa9383fc86539e166685d4c5e68ea1b8fd991eed6f9c50c", func := "loop.example/g00667/laws.FnFrames", spec := "fnFrames", apart := false, narrowed := true }
def FnFramesUptoSaid : Prop := fnFramesUptoRow.holds Try.pinned (OpenSpec.upto fnFramesSpec)

/-- 'laws.FnTidy', WHERE WHAT IT READS IS OF BULK AT MOST 1048576: true; the input reads as it did. -/
def fnTidyUptoRow : OpenClaim := { program := "yteiablhopiobbaa", sum := "84040c74034f3dd28fa9383fc86539e166685d4c5e68ea1b8fd991eed6f9c50c", func := "loop.example/g00667/laws.FnTidy", spec := "fnTidy", inPlace := ["slices.overlaps[loop.example/g00667/impl.Range]"], unfollowed := true, recurses := true, apart := false, narrowed := true }
def FnTidyUptoSaid : Prop := fnTidyUptoRow.holds Try.pinned (OpenSpec.upto fnTidySpec)

end Rows
end Go.Proofs.Yteiablhopiobbaa
