/-
  No cell of these rows narrows 'for every input' (looked for: loops, veiled, ifaces, maps, wideKeys, modest, calm, conditions, laid).
  DERIVED. THE GIVEN ROWS OF THIS SEAT. 5 by the template 'for every input the law returns true; each argument reads behind the call as it read before'; 0 by the template 'total and deterministic' (their statements: YtpoibafjialcdaaTotals.lean).
  GIVEN WITH THE SEED: the statements are not yours to turn. If you find one false, say at which input.
  Laid BY PROGRAM, IN A SANDBOX (cutbox-rows.mjs): the forced cells as the released guide's own fill.sh prints them over the translation 6df5aa8678aff0a1… (all of the seat's roots in one cut). By AI agents, Wed Nov 11 2026. No macro, syntax, notation, axiom, sorry.
-/
import Derived.Test.YtpoibafjialcdaaChecked
import GoSem.Claim
import GoSem.ClaimJoined
import GoSem.ClaimMapViews
import Derived.JoinedTies
import Derived.KernelRfl
namespace Go.Proofs.Ytpoibafjialcdaa
/- THE CELL 'sum', in the pinned program and in every row, IS THE sha256 OF THE DUMP (.gsa) THAT YtpoibafjialcdaaProg.lean LOADS. Nothing in Lean hashes anything: it is a label: what it is worth is what the hold of that sum in a sandbox is worth. -/
noncomputable def Try.pinned : Pinned := { name := "ytpoibafjialcdaa", sum := "6df5aa8678aff0a11830810fe7a3713ee6091c37a16e94790c2721fc3ced1c14", checked := Try.checked }
namespace Rows
def none {H : Type} : Left H := { results := [], args := [] }

/-- 'laws.FnExactArpBytes': WHATEVER THE INPUT: true; the input reads as it did. -/
def fnExactArpBytesSpec : ChangeSpec := { name := "fnExactArpBytes", fn := fun _ => fun
  | [d] => { results := [.lit (.bool true)], args := [d] }
  | _ => none }
def fnExactArpBytesRow : OpenClaim := { program := "ytpoibafjialcdaa", sum := "6df5aa8678aff0a11830810fe7a3713ee6091c37a16e94790c2721fc3ced1c14", func := "loop.example/g00667/laws.FnExactArpBytes", spec := "fnExactArpBytes", apart := false }
def FnExactArpBytesSaid : Prop := fnExactArpBytesRow.holds Try.pinned (OpenSpec.ofChange fnExactArpBytesSpec)

/-- ITS FALSE NEIGHBOUR: 'it returns false'. Refute it at one input. -/
def fnExactArpBytesWrong : ChangeSpec := { name := "fnExactArpBytes", fn := fun _ => fun
  | [d] => { results := [.lit (.bool false)], args := [d] }
  | _ => none }
def FnExactArpBytesWrongFalsely : Prop := fnExactArpBytesRow.holds Try.pinned (OpenSpec.ofChange fnExactArpBytesWrong)

/-- 'laws.FnExactPackBytes': WHATEVER THE INPUT: true; the input reads as it did. -/
def fnExactPackBytesSpec : ChangeSpec := { name := "fnExactPackBytes", fn := fun _ => fun
  | [d] => { results := [.lit (.bool true)], args := [d] }
  | _ => none }
def fnExactPackBytesRow : OpenClaim := { program := "ytpoibafjialcdaa", sum := "6df5aa8678aff0a11830810fe7a3713ee6091c37a16e94790c2721fc3ced1c14", func := "loop.example/g00667/laws.FnExactPackBytes", spec := "fnExactPackBytes", apart := false }
def FnExactPackBytesSaid : Prop := fnExactPackBytesRow.holds Try.pinned (OpenSpec.ofChange fnExactPackBytesSpec)

/-- ITS FALSE NEIGHBOUR: 'it returns false'. Refute it at one input. -/
def fnExactPackBytesWrong : ChangeSpec := { name := "fnExactPackBytes", fn := fun _ => fun
  | [d] => { results := [.lit (.bool false)], args := [d] }
  | _ => none }
def FnExactPackBytesWrongFalsely : Prop := fnExactPackBytesRow.holds Try.pinned (OpenSpec.ofChange fnExactPackBytesWrong)

/-- 'laws.FnExactEthBytes': WHATEVER THE INPUT: true; the input reads as it did. -/
def fnExactEthBytesSpec : ChangeSpec := { name := "fnExactEthBytes", fn := fun _ => fun
  | [d] => { results := [.lit (.bool true)], args := [d] }
  | _ => none }
def fnExactEthBytesRow : OpenClaim := { program := "ytpoibafjialcdaa", sum := "6df5aa8678aff0a11830810fe7a3713ee6091c37a16e94790c2721fc3ced1c14", func := "loop.example/g00667/laws.FnExactEthBytes", spec := "fnExactEthBytes", apart := false }
def FnExactEthBytesSaid : Prop := fnExactEthBytesRow.holds Try.pinned (OpenSpec.ofChange fnExactEthBytesSpec)

/-- ITS FALSE NEIGHBOUR: 'it returns false'. Refute it at one input. -/
def fnExactEthBytesWrong : ChangeSpec := { name := "fnExactEthBytes", fn := fun _ => fun
  | [d] => { results := [.lit (.bool false)], args := [d] }
  | _ => none }
def FnExactEthBytesWrongFalsely : Prop := fnExactEthBytesRow.holds Try.pinned (OpenSpec.ofChange fnExactEthBytesWrong)

/-- 'laws.FnExactWentRight': WHATEVER THE INPUT: true; the input reads as it did. -/
def fnExactWentRightSpec : ChangeSpec := { name := "fnExactWentRight", fn := fun _ => fun
  | [d] => { results := [.lit (.bool true)], args := [d] }
  | _ => none }
def fnExactWentRightRow : OpenClaim := { program := "ytpoibafjialcdaa", sum := "6df5aa8678aff0a11830810fe7a3713ee6091c37a16e94790c2721fc3ced1c14", func := "loop.example/g00667/laws.FnExactWentRight", spec := "fnExactWentRight", apart := false }
def FnExactWentRightSaid : Prop := fnExactWentRightRow.holds Try.pinned (OpenSpec.ofChange fnExactWentRightSpec)

/-- ITS FALSE NEIGHBOUR: 'it returns false'. Refute it at one input. -/
def fnExactWentRightWrong : ChangeSpec := { name := "fnExactWentRight", fn := fun _ => fun
  | [d] => { results := [.lit (.bool false)], args := [d] }
  | _ => none }
def FnExactWentRightWrongFalsely : Prop := fnExactWentRightRow.holds Try.pinned (OpenSpec.ofChange fnExactWentRightWrong)

/-- 'laws.FnExactRouteOf': WHATEVER THE INPUT: true; the input reads as it did. -/
def fnExactRouteOfSpec : ChangeSpec := { name := "fnExactRouteOf", fn := fun _ => fun
  | [d1, d2] => { results := [.lit (.bool true)], args := [d1, d2] }
  | _ => none }
def fnExactRouteOfRow : OpenClaim := { program := "ytpoibafjialcdaa", sum := "6df5aa8678aff0a11830810fe7a3713ee6091c37a16e94790c2721fc3ced1c14", func := "loop.example/g00667/laws.FnExactRouteOf", spec := "fnExactRouteOf", apart := false }
def FnExactRouteOfSaid : Prop := fnExactRouteOfRow.holds Try.pinned (OpenSpec.ofChange fnExactRouteOfSpec)

/-- ITS FALSE NEIGHBOUR: 'it returns false'. Refute it at one input. -/
def fnExactRouteOfWrong : ChangeSpec := { name := "fnExactRouteOf", fn := fun _ => fun
  | [d1, d2] => { results := [.lit (.bool false)], args := [d1, d2] }
  | _ => none }
def FnExactRouteOfWrongFalsely : Prop := fnExactRouteOfRow.holds Try.pinned (OpenSpec.ofChange fnExactRouteOfWrong)

/- THE SECOND FORM. 'bulk': how many values and letters a reading holds, each counted each time it is reached (what is shared counts as often as it is met; a slice's spare places count too). A statement '..UptoSaid' is the law's where the arguments, and the package variables that the reading takes, are together of bulk at most 1048576: NARROWER than '..Said'. Prove '..Said' where nothing that the law and all that it calls make is longer than what came in: it says more and counts as full. Else prove '..UptoSaid'. A law counts once. -/
mutual
def uptoBulk {H : Type} : DataW H → Nat
  | .lit (.string bytes) => bytes.length + 1
  | .lit _ => 1
  | .nil => 1
  | .ptr d => uptoBulk d + 1
  | .slice elems spare => uptoBulkAll elems + uptoBulkAll spare + 1
  | .agg parts => uptoBulkAll parts + 1
  | .iface _ d => uptoBulk d + 1
  | .map entries => uptoBulkEntries entries + 1
  | .held _ => 1
def uptoBulkAll {H : Type} : List (DataW H) → Nat
  | [] => 0
  | d :: r => uptoBulk d + uptoBulkAll r
def uptoBulkEntries {H : Type} : List (Lit × DataW H) → Nat
  | [] => 0
  | x :: r => uptoBulkEntry x + uptoBulkEntries r
def uptoBulkEntry {H : Type} : Lit × DataW H → Nat
  | (.string bytes, d) => bytes.length + uptoBulk d + 1
  | (_, d) => uptoBulk d + 1
 end
def uptoSmall : (H : Type) → List (DataW H) → Bool := fun _ ds => decide (uptoBulkAll ds ≤ 1048576)
def OpenSpec.upto (s : _root_.Go.ChangeSpec) : _root_.Go.OpenSpec := { _root_.Go.OpenSpec.ofChange s with cond := some uptoSmall }

/-- 'laws.FnExactArpBytes', WHERE WHAT IT READS IS OF BULK AT MOST 1048576: true; the input reads as it did. -/
def fnExactArpBytesUptoRow : OpenClaim := { program := "ytpoibafjialcdaa", sum := "6df5aa8678aff0a11830810fe7a3713ee6091c37a16e94790c2721fc3ced1c14", func := "loop.example/g00667/laws.FnExactArpBytes", spec := "fnExactArpBytes", apart := false, narrowed := true }
def FnExactArpBytesUptoSaid : Prop := fnExactArpBytesUptoRow.holds Try.pinned (OpenSpec.upto fnExactArpBytesSpec)

/-- 'laws.FnExactPackBytes', WHERE WHAT IT READS IS OF BULK AT MOST 1048576: true; the input reads as it did. -/
def fnExactPackBytesUptoRow : OpenClaim := { program := "ytpoibafjialcdaa", sum := "6df5aa8678aff0a11830810fe7a3713ee6091c37a16e94790c2721fc3ced1c14", func := "loop.example/g00667/laws.FnExactPackBytes", spec := "fnExactPackBytes", apart := false, narrowed := true }
def FnExactPackBytesUptoSaid : Prop := fnExactPackBytesUptoRow.holds Try.pinned (OpenSpec.upto fnExactPackBytesSpec)

/-- 'laws.FnExactEthBytes', WHERE WHAT IT READS IS OF BULK AT MOST 1048576: true; the input reads as it did. -/
def fnExactEthBytesUptoRow : OpenClaim := { program := "ytpoibafjialcdaa", sum := "6df5aa8678aff0a11830810fe7a3713ee6091c37a16e94790c2721fc3ced1c14", func := "loop.example/g00667/laws.FnExactEthBytes", spec := "fnExactEthBytes", apart := false, narrowed := true }
def FnExactEthBytesUptoSaid : Prop := fnExactEthBytesUptoRow.holds Try.pinned (OpenSpec.upto fnExactEthBytesSpec)

/-- 'laws.FnExactWentRight', WHERE WHAT IT READS IS OF BULK AT MOST 1048576: true; the input reads as it did. -/
def fnExactWentRightUptoRow : OpenClaim := { program := "ytpoibafjialcdaa", sum := "6df5aa8678aff0a11830810fe7a3713ee6091c37a16e94790c2721fc3ced1c14", func := "loop.example/g00667/laws.FnExactWentRight", spec := "fnExactWentRight", apart := false, narrowed := true }
def FnExactWentRightUptoSaid : Prop := fnExactWentRightUptoRow.holds Try.pinned (OpenSpec.upto fnExactWentRightSpec)

/-- 'laws.FnExactRouteOf', WHERE WHAT IT READS IS OF BULK AT MOST 1048576: true; the input reads as it did. -/
def fnExactRouteOfUptoRow : OpenClaim := { program := "ytpoibafjialcdaa", sum := "6df5aa8678aff0a11830810fe7a3713ee6091c37a16e94790c2721fc3ced1c14", func := "loop.example/g00667/laws.FnExactRouteOf", spec := "fnExactRouteOf", apart := false, narrowed := true }
def FnExactRouteOfUptoSaid : Prop := fnExactRouteOfUptoRow.holds Try.pinned (OpenSpec.upto fnExactRouteOfSpec)

end Rows
end Go.Proofs.Ytpoibafjialcdaa
