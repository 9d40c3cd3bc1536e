/-
  No cell of these rows narrows 'for every input' (looked for: loops, veiled, ifaces, maps, wideKeys, modest, calm, conditions, laid).
  DERIVED. THE GIVEN ROWS OF THIS SEAT. 11 by the template 'for every input the law returns true; each argument reads behind the call as it read before'; 0 by the template 'total and deterministic' (their statements: YtifahfnbjidfhaaTotals.lean).
  GIVEN WITH THE SEED: the statements are not yours to turn. If you find one false, say at which input.
  Laid BY PROGRAM, IN A SANDBOX (cutbox-rows.mjs): the forced cells as the released guide's own fill.sh prints them over the translation 40adc33f1b9adc17… (all of the seat's roots in one cut). By AI agents, Wed Nov 11 2026. No macro, syntax, notation, axiom, sorry.
-/
import Derived.Test.YtifahfnbjidfhaaChecked
import GoSem.Claim
import GoSem.ClaimJoined
import GoSem.ClaimMapViews
import Derived.JoinedTies
import Derived.KernelRfl
namespace Go.Proofs.Ytifahfnbjidfhaa
/- THE CELL 'sum', in the pinned program and in every row, IS THE sha256 OF THE DUMP (.gsa) THAT YtifahfnbjidfhaaProg.lean LOADS. Nothing in Lean hashes anything: it is a label: what it is worth is what the hold of that sum in a sandbox is worth. -/
noncomputable def Try.pinned : Pinned := { name := "ytifahfnbjidfhaa", sum := "40adc33f1b9adc1746f73e91a67169b143f01de922a3454ac8a583c1e53459dc", checked := Try.checked }
namespace Rows
def none {H : Type} : Left H := { results := [], args := [] }

/-- 'laws.FnExactWentCount': WHATEVER THE INPUT: true; the input reads as it did. -/
def fnExactWentCountSpec : ChangeSpec := { name := "fnExactWentCount", fn := fun _ => fun
  | [d1, d2, d3, d4] => { results := [.lit (.bool true)], args := [d1, d2, d3, d4] }
  | _ => none }
def fnExactWentCountRow : OpenClaim := { program := "ytifahfnbjidfhaa", sum := "40adc33f1b9adc1746f73e91a67169b143f01de922a3454ac8a583c1e53459dc", func := "loop.example/g00667/laws.FnExactWentCount", spec := "fnExactWentCount", apart := false }
def FnExactWentCountSaid : Prop := fnExactWentCountRow.holds Try.pinned (OpenSpec.ofChange fnExactWentCountSpec)

/-- ITS FALSE NEIGHBOUR: 'it returns false'. Refute it at one input. -/
def fnExactWentCountWrong : ChangeSpec := { name := "fnExactWentCount", fn := fun _ => fun
  | [d1, d2, d3, d4] => { results := [.lit (.bool false)], args := [d1, d2, d3, d4] }
  | _ => none }
def FnExactWentCountWrongFalsely : Prop := fnExactWentCountRow.holds Try.pinned (OpenSpec.ofChange fnExactWentCountWrong)

/-- 'laws.FnExactWentPut': WHATEVER THE INPUT: true; the input reads as it did. -/
def fnExactWentPutSpec : ChangeSpec := { name := "fnExactWentPut", fn := fun _ => fun
  | [d1, d2] => { results := [.lit (.bool true)], args := [d1, d2] }
  | _ => none }
def fnExactWentPutRow : OpenClaim := { program := "ytifahfnbjidfhaa", sum := "40adc33f1b9adc1746f73e91a67169b143f01de922a3454ac8a583c1e53459dc", func := "loop.example/g00667/laws.FnExactWentPut", spec := "fnExactWentPut", apart := false }
def FnExactWentPutSaid : Prop := fnExactWentPutRow.holds Try.pinned (OpenSpec.ofChange fnExactWentPutSpec)

/-- ITS FALSE NEIGHBOUR: 'it returns false'. Refute it at one input. -/
def fnExactWentPutWrong : ChangeSpec := { name := "fnExactWentPut", fn := fun _ => fun
  | [d1, d2] => { results := [.lit (.bool false)], args := [d1, d2] }
  | _ => none }
def FnExactWentPutWrongFalsely : Prop := fnExactWentPutRow.holds Try.pinned (OpenSpec.ofChange fnExactWentPutWrong)

/-- 'laws.FnExactWentDrop': WHATEVER THE INPUT: true; the input reads as it did. -/
def fnExactWentDropSpec : ChangeSpec := { name := "fnExactWentDrop", fn := fun _ => fun
  | [d1, d2, d3] => { results := [.lit (.bool true)], args := [d1, d2, d3] }
  | _ => none }
def fnExactWentDropRow : OpenClaim := { program := "ytifahfnbjidfhaa", sum := "40adc33f1b9adc1746f73e91a67169b143f01de922a3454ac8a583c1e53459dc", func := "loop.example/g00667/laws.FnExactWentDrop", spec := "fnExactWentDrop", unfollowed := true, recurses := true, apart := false }
def FnExactWentDropSaid : Prop := fnExactWentDropRow.holds Try.pinned (OpenSpec.ofChange fnExactWentDropSpec)

/-- ITS FALSE NEIGHBOUR: 'it returns false'. Refute it at one input. -/
def fnExactWentDropWrong : ChangeSpec := { name := "fnExactWentDrop", fn := fun _ => fun
  | [d1, d2, d3] => { results := [.lit (.bool false)], args := [d1, d2, d3] }
  | _ => none }
def FnExactWentDropWrongFalsely : Prop := fnExactWentDropRow.holds Try.pinned (OpenSpec.ofChange fnExactWentDropWrong)

/-- 'laws.FnExactWentTrim': WHATEVER THE INPUT: true; the input reads as it did. -/
def fnExactWentTrimSpec : ChangeSpec := { name := "fnExactWentTrim", fn := fun _ => fun
  | [d1, d2] => { results := [.lit (.bool true)], args := [d1, d2] }
  | _ => none }
def fnExactWentTrimRow : OpenClaim := { program := "ytifahfnbjidfhaa", sum := "40adc33f1b9adc1746f73e91a67169b143f01de922a3454ac8a583c1e53459dc", func := "loop.example/g00667/laws.FnExactWentTrim", spec := "fnExactWentTrim", unfollowed := true, recurses := true, apart := false }
def FnExactWentTrimSaid : Prop := fnExactWentTrimRow.holds Try.pinned (OpenSpec.ofChange fnExactWentTrimSpec)

/-- ITS FALSE NEIGHBOUR: 'it returns false'. Refute it at one input. -/
def fnExactWentTrimWrong : ChangeSpec := { name := "fnExactWentTrim", fn := fun _ => fun
  | [d1, d2] => { results := [.lit (.bool false)], args := [d1, d2] }
  | _ => none }
def FnExactWentTrimWrongFalsely : Prop := fnExactWentTrimRow.holds Try.pinned (OpenSpec.ofChange fnExactWentTrimWrong)

/-- 'laws.FnExactGuestsRight': WHATEVER THE INPUT: true; the input reads as it did. -/
def fnExactGuestsRightSpec : ChangeSpec := { name := "fnExactGuestsRight", fn := fun _ => fun
  | [d] => { results := [.lit (.bool true)], args := [d] }
  | _ => none }
def fnExactGuestsRightRow : OpenClaim := { program := "ytifahfnbjidfhaa", sum := "40adc33f1b9adc1746f73e91a67169b143f01de922a3454ac8a583c1e53459dc", func := "loop.example/g00667/laws.FnExactGuestsRight", spec := "fnExactGuestsRight", apart := false }
def FnExactGuestsRightSaid : Prop := fnExactGuestsRightRow.holds Try.pinned (OpenSpec.ofChange fnExactGuestsRightSpec)

/-- ITS FALSE NEIGHBOUR: 'it returns false'. Refute it at one input. -/
def fnExactGuestsRightWrong : ChangeSpec := { name := "fnExactGuestsRight", fn := fun _ => fun
  | [d] => { results := [.lit (.bool false)], args := [d] }
  | _ => none }
def FnExactGuestsRightWrongFalsely : Prop := fnExactGuestsRightRow.holds Try.pinned (OpenSpec.ofChange fnExactGuestsRightWrong)

/-- 'laws.FnExactGuestAt': WHATEVER THE INPUT: true; the input reads as it did. -/
def fnExactGuestAtSpec : ChangeSpec := { name := "fnExactGuestAt", fn := fun _ => fun
  | [d1, d2, d3] => { results := [.lit (.bool true)], args := [d1, d2, d3] }
  | _ => none }
def fnExactGuestAtRow : OpenClaim := { program := "ytifahfnbjidfhaa", sum := "40adc33f1b9adc1746f73e91a67169b143f01de922a3454ac8a583c1e53459dc", func := "loop.example/g00667/laws.FnExactGuestAt", spec := "fnExactGuestAt", unfollowed := true, recurses := true, apart := false }
def FnExactGuestAtSaid : Prop := fnExactGuestAtRow.holds Try.pinned (OpenSpec.ofChange fnExactGuestAtSpec)

/-- ITS FALSE NEIGHBOUR: 'it returns false'. Refute it at one input. -/
def fnExactGuestAtWrong : ChangeSpec := { name := "fnExactGuestAt", fn := fun _ => fun
  | [d1, d2, d3] => { results := [.lit (.bool false)], args := [d1, d2, d3] }
  | _ => none }
def FnExactGuestAtWrongFalsely : Prop := fnExactGuestAtRow.holds Try.pinned (OpenSpec.ofChange fnExactGuestAtWrong)

/-- 'laws.FnExactGuestsAge': WHATEVER THE INPUT: true; the input reads as it did. -/
def fnExactGuestsAgeSpec : ChangeSpec := { name := "fnExactGuestsAge", fn := fun _ => fun
  | [d1, d2] => { results := [.lit (.bool true)], args := [d1, d2] }
  | _ => none }
def fnExactGuestsAgeRow : OpenClaim := { program := "ytifahfnbjidfhaa", sum := "40adc33f1b9adc1746f73e91a67169b143f01de922a3454ac8a583c1e53459dc", func := "loop.example/g00667/laws.FnExactGuestsAge", spec := "fnExactGuestsAge", unfollowed := true, recurses := true, apart := false }
def FnExactGuestsAgeSaid : Prop := fnExactGuestsAgeRow.holds Try.pinned (OpenSpec.ofChange fnExactGuestsAgeSpec)

/-- ITS FALSE NEIGHBOUR: 'it returns false'. Refute it at one input. -/
def fnExactGuestsAgeWrong : ChangeSpec := { name := "fnExactGuestsAge", fn := fun _ => fun
  | [d1, d2] => { results := [.lit (.bool false)], args := [d1, d2] }
  | _ => none }
def FnExactGuestsAgeWrongFalsely : Prop := fnExactGuestsAgeRow.holds Try.pinned (OpenSpec.ofChange fnExactGuestsAgeWrong)

/-- 'laws.FnExactGuestDrop': WHATEVER THE INPUT: true; the input reads as it did. -/
def fnExactGuestDropSpec : ChangeSpec := { name := "fnExactGuestDrop", fn := fun _ => fun
  | [d1, d2, d3] => { results := [.lit (.bool true)], args := [d1, d2, d3] }
  | _ => none }
def fnExactGuestDropRow : OpenClaim := { program := "ytifahfnbjidfhaa", sum := "40adc33f1b9adc1746f73e91a67169b143f01de922a3454ac8a583c1e53459dc", func := "loop.example/g00667/laws.FnExactGuestDrop", spec := "fnExactGuestDrop", unfollowed := true, recurses := true, apart := false }
def FnExactGuestDropSaid : Prop := fnExactGuestDropRow.holds Try.pinned (OpenSpec.ofChange fnExactGuestDropSpec)

/-- ITS FALSE NEIGHBOUR: 'it returns false'. Refute it at one input. -/
def fnExactGuestDropWrong : ChangeSpec := { name := "fnExactGuestDrop", fn := fun _ => fun
  | [d1, d2, d3] => { results := [.lit (.bool false)], args := [d1, d2, d3] }
  | _ => none }
def FnExactGuestDropWrongFalsely : Prop := fnExactGuestDropRow.holds Try.pinned (OpenSpec.ofChange fnExactGuestDropWrong)

/-- 'laws.FnExactGuestPut': WHATEVER THE INPUT: true; the input reads as it did. -/
def fnExactGuestPutSpec : ChangeSpec := { name := "fnExactGuestPut", fn := fun _ => fun
  | [d1, d2] => { results := [.lit (.bool true)], args := [d1, d2] }
  | _ => none }
def fnExactGuestPutRow : OpenClaim := { program := "ytifahfnbjidfhaa", sum := "40adc33f1b9adc1746f73e91a67169b143f01de922a3454ac8a583c1e53459dc", func := "loop.example/g00667/laws.FnExactGuestPut", spec := "fnExactGuestPut", inPlace := ["slices.overlaps[loop.example/g00667/impl.Guest]"], unfollowed := true, recurses := true, apart := false }
def FnExactGuestPutSaid : Prop := fnExactGuestPutRow.holds Try.pinned (OpenSpec.ofChange fnExactGuestPutSpec)

/-- ITS FALSE NEIGHBOUR: 'it returns false'. Refute it at one input. -/
def fnExactGuestPutWrong : ChangeSpec := { name := "fnExactGuestPut", fn := fun _ => fun
  | [d1, d2] => { results := [.lit (.bool false)], args := [d1, d2] }
  | _ => none }
def FnExactGuestPutWrongFalsely : Prop := fnExactGuestPutRow.holds Try.pinned (OpenSpec.ofChange fnExactGuestPutWrong)

/-- 'laws.FnWent': WHATEVER THE INPUT: true; the input reads as it did. -/
def fnWentSpec : ChangeSpec := { name := "fnWent", fn := fun _ => fun
  | [d1, d2] => { results := [.lit (.bool true)], args := [d1, d2] }
  | _ => none }
def fnWentRow : OpenClaim := { program := "ytifahfnbjidfhaa", sum := "40adc33f1b9adc1746f73e91a67169b143f01de922a3454ac8a583c1e53459dc", func := "loop.example/g00667/laws.FnWent", spec := "fnWent", unfollowed := true, recurses := true, apart := false }
def FnWentSaid : Prop := fnWentRow.holds Try.pinned (OpenSpec.ofChange fnWentSpec)

/-- ITS FALSE NEIGHBOUR: 'it returns false'. Refute it at one input. -/
def fnWentWrong : ChangeSpec := { name := "fnWent", fn := fun _ => fun
  | [d1, d2] => { results := [.lit (.bool false)], args := [d1, d2] }
  | _ => none }
def FnWentWrongFalsely : Prop := fnWentRow.holds Try.pinned (OpenSpec.ofChange fnWentWrong)

/-- 'laws.FnGuests': WHATEVER THE INPUT: true; the input reads as it did. -/
def fnGuestsSpec : ChangeSpec := { name := "fnGuests", fn := fun _ => fun
  | [d1, d2] => { results := [.lit (.bool true)], args := [d1, d2] }
  | _ => none }
def fnGuestsRow : OpenClaim := { program := "ytifahfnbjidfhaa", sum := "40adc33f1b9adc1746f73e91a67169b143f01de922a3454ac8a583c1e53459dc", func := "loop.example/g00667/laws.FnGuests", spec := "fnGuests", inPlace := ["slices.overlaps[loop.example/g00667/impl.Guest]"], unfollowed := true, recurses := true, apart := false }
def FnGuestsSaid : Prop := fnGuestsRow.holds Try.pinned (OpenSpec.ofChange fnGuestsSpec)

/-- ITS FALSE NEIGHBOUR: 'it returns false'. Refute it at one input. -/
def fnGuestsWrong : ChangeSpec := { name := "fnGuests", fn := fun _ => fun
  | [d1, d2] => { results := [.lit (.bool false)], args := [d1, d2] }
  | _ => none }
def FnGuestsWrongFalsely : Prop := fnGuestsRow.holds Try.pinned (OpenSpec.ofChange fnGuestsWrong)

/- THE SECOND FORM. 'bulk': how many values and letters a reading holds, each counted each time it is reached (what is shared counts as often as it is met; a slice's spare places count too). A statement '..UptoSaid' is the law's where the arguments, and the package variables that the reading takes, are together of bulk at most 1048576: NARROWER than '..Said'. Prove '..Said' where nothing that the law and all that it calls make is longer than what came in: it says more and counts as full. Else prove '..UptoSaid'. A law counts once. -/
mutual
def uptoBulk {H : Type} : DataW H → Nat
  | .lit (.string bytes) => bytes.length + 1
  | .lit _ => 1
  | .nil => 1
  | .ptr d => uptoBulk d + 1
  | .slice elems spare => uptoBulkAll elems + uptoBulkAll spare + 1
  | .agg parts => uptoBulkAll parts + 1
  | .iface _ d => uptoBulk d + 1
  | .map entries => uptoBulkEntries entries + 1
  | .held _ => 1
def uptoBulkAll {H : Type} : List (DataW H) → Nat
  | [] => 0
  | d :: r => uptoBulk d + uptoBulkAll r
def uptoBulkEntries {H : Type} : List (Lit × DataW H) → Nat
  | [] => 0
  | x :: r => uptoBulkEntry x + uptoBulkEntries r
def uptoBulkEntry {H : Type} : Lit × DataW H → Nat
  | (.string bytes, d) => bytes.length + uptoBulk d + 1
  | (_, d) => uptoBulk d + 1
 end
def uptoSmall : (H : Type) → List (DataW H) → Bool := fun _ ds => decide (uptoBulkAll ds ≤ 1048576)
def OpenSpec.upto (s : _root_.Go.ChangeSpec) : _root_.Go.OpenSpec := { _root_.Go.OpenSpec.ofChange s with cond := some uptoSmall }

/-- 'laws.FnExactWentCount', WHERE WHAT IT READS IS OF BULK AT MOST 1048576: true; the input reads as it did. -/
def fnExactWentCountUptoRow : OpenClaim := { program := "ytifahfnbjidfhaa", sum := "40adc33f1b9adc1746f73e91a67169b143f01de922a3454ac8a583c1e53459dc", func := "loop.example/g00667/laws.FnExactWentCount", spec := "fnExactWentCount", apart := false, narrowed := true }
def FnExactWentCountUptoSaid : Prop := fnExactWentCountUptoRow.holds Try.pinned (OpenSpec.upto fnExactWentCountSpec)

/-- 'laws.FnExactWentPut', WHERE WHAT IT READS IS OF BULK AT MOST 1048576: true; the input reads as it did. -/
def fnExactWentPutUptoRow : OpenClaim := { program := "ytifahfnbjidfhaa", sum := "40adc33f1b9adc1746f73e91a67169b143f01de922a3454ac8a583c1e53459dc", func := "loop.example/g00667/laws.FnExactWentPut", spec := "fnExactWentPut", apart := false, narrowed := true }
def FnExactWentPutUptoSaid : Prop := fnExactWentPutUptoRow.holds Try.pinned (OpenSpec.upto fnExactWentPutSpec)

/-- 'laws.FnExactWentDrop', WHERE WHAT IT READS IS OF BULK AT MOST 1048576: true; the input reads as it did. -/
def fnExactWentDropUptoRow : OpenClaim := { program := "ytifahfnbjidfhaa", sum := "40adc33f1b9adc1746f73e91a67169b143f01de922a3454ac8a583c1e53459dc", func := "loop.example/g00667/laws.FnExactWentDrop", spec := "fnExactWentDrop", unfollowed := true, recurses := true, apart := false, narrowed := true }
def FnExactWentDropUptoSaid : Prop := fnExactWentDropUptoRow.holds Try.pinned (OpenSpec.upto fnExactWentDropSpec)

/-- 'laws.FnExactWentTrim', WHERE WHAT IT READS IS OF BULK AT MOST 1048576: true; the input reads as it did. -/
def fnExactWentTrimUptoRow : OpenClaim := { program := "ytifahfnbjidfhaa", sum := "40adc33f1b9adc1746f73e91a67169b143f01de922a3454ac8a583c1e53459dc", func := "loop.example/g00667/laws.FnExactWentTrim", spec := "fnExactWentTrim", unfollowed := true, recurses := true, apart := false, narrowed := true }
def FnExactWentTrimUptoSaid : Prop := fnExactWentTrimUptoRow.holds Try.pinned (OpenSpec.upto fnExactWentTrimSpec)

/-- 'laws.FnExactGuestsRight', WHERE WHAT IT READS IS OF BULK AT MOST 1048576: true; the input reads as it did. -/
def fnExactGuestsRightUptoRow : OpenClaim := { program := "ytifahfnbjidfhaa", sum := "40adc33f1b9adc1746f73e91a67169b143f01de922a3454ac8a583c1e53459dc", func := "loop.example/g00667/laws.FnExactGuestsRight", spec := "fnExactGuestsRight", apart := false, narrowed := true }
def FnExactGuestsRightUptoSaid : Prop := fnExactGuestsRightUptoRow.holds Try.pinned (OpenSpec.upto fnExactGuestsRightSpec)

/-- 'laws.FnExactGuestAt', WHERE WHAT IT READS IS OF BULK AT MOST 1048576: true; the input reads as it did. -/
def fnExactGuestAtUptoRow : OpenClaim := { program := "ytifahfnbjidfhaa", sum := "40adc33f1b9adc1746f73e91a67169b143f01de922a3454ac8a583c1e53459dc", func := "loop.example/g00667/laws.FnExactGuestAt", spec := "fnExactGuestAt", unfollowed := true, recurses := true, apart := false, narrowed := true }
def FnExactGuestAtUptoSaid : Prop := fnExactGuestAtUptoRow.holds Try.pinned (OpenSpec.upto fnExactGuestAtSpec)

/-- 'laws.FnExactGuestsAge', WHERE WHAT IT READS IS OF BULK AT MOST 1048576: true; the input reads as it did. -/
def fnExactGuestsAgeUptoRow : OpenClaim := { program := "ytifahfnbjidfhaa", sum := "40adc33f1b9adc1746f73e91a67169b143f01de922a3454ac8a583c1e53459dc", func := "loop.example/g00667/laws.FnExactGuestsAge", spec := "fnExactGuestsAge", unfollowed := true, recurses := true, apart := false, narrowed := true }
def FnExactGuestsAgeUptoSaid : Prop := fnExactGuestsAgeUptoRow.holds Try.pinned (OpenSpec.upto fnExactGuestsAgeSpec)

/-- 'laws.FnExactGuestDrop', WHERE WHAT IT READS IS OF BULK AT MOST 1048576: true; the input reads as it did. -/
def fnExactGuestDropUptoRow : OpenClaim := { program := "ytifahfnbjidfhaa", sum := "40adc33f1b9adc1746f73e91a67169b143f01de922a3454ac8a583c1e53459dc", func := "loop.example/g00667/laws.FnExactGuestDrop", spec := "fnExactGuestDrop", unfollowed := true, recurses := true, apart := false, narrowed := true }
def FnExactGuestDropUptoSaid : Prop := fnExactGuestDropUptoRow.holds Try.pinned (OpenSpec.upto fnExactGuestDropSpec)

/-- 'laws.FnExactGuestPut', WHERE WHAT IT READS IS OF BULK AT MOST 1048576: true; the input reads as it did. -/
def fnExactGuestPutUptoRow : OpenClaim := { program := "ytifahfnbjidfhaa", sum := "40adc33f1b9adc1746f73e91a67169b143f01de922a3454ac8a583c1e53459dc", func := "loop.example/g00667/laws.FnExactGuestPut", spec := "fnExactGuestPut", inPlace := ["slices.overlaps[loop.example/g00667/impl.Guest]"], unfollowed := true, recurses := true, apart := false, narrowed := true }
def FnExactGuestPutUptoSaid : Prop := fnExactGuestPutUptoRow.holds Try.pinned (OpenSpec.upto fnExactGuestPutSpec)

/-- 'laws.FnWent', WHERE WHAT IT READS IS OF BULK AT MOST 1048576: true; the input reads as it did. -/
def fnWentUptoRow : OpenClaim := { program := "ytifahfnbjidfhaa", sum := "40adc33f1b9adc1746f73e91a67169b143f01de922a3454ac8a583c1e53459dc", func := "loop.example/g00667/laws.FnWent", spec := "fnWent", unfollowed := true, recurses := true, apart := false, narrowed := true }
def FnWentUptoSaid : Prop := fnWentUptoRow.holds Try.pinned (OpenSpec.upto fnWentSpec)

/-- 'laws.FnGuests', WHERE WHAT IT READS IS OF BULK AT MOST 1048576: true; the input reads as it did. -/
def fnGuestsUptoRow : OpenClaim := { program := "ytifahfnbjidfhaa", sum := "40adc33f1b9adc1746f73e91a67169b143f01de922a3454ac8a583c1e53459dc", func := "loop.example/g00667/laws.FnGuests", spec := "fnGuests", inPlace := ["slices.overlaps[loop.example/g00667/impl.Guest]"], unfollowed := true, recurses := true, apart := false, narrowed := true }
def FnGuestsUptoSaid : Prop := fnGuestsUptoRow.holds Try.pinned (OpenSpec.upto fnGuestsSpec)

end Rows
end Go.Proofs.Ytifahfnbjidfhaa
