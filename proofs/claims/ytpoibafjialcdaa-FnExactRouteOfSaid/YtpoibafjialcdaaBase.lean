/- Plain words on numbers and lists, without any program. -/
import Derived.Test.YtpoibafjialcdaaRows
import Derived.Test.YtpoibafjialcdaaWWords
import Derived.Test.YtpoibafjialcdaaWLast
import Derived.Test.YtpoibafjialcdaaWMore
set_option linter.unusedSimpArgs false
set_option linter.unusedVariables false
namespace Go.Proofs.Ytpoibafjialcdaa.Base
open Go.RowKit Go.Proofs.YtpoibafjialcdaaW.PrintWords Go.Proofs.YtpoibafjialcdaaW.PrintLast

/-- low ≤ n ≤ high, as a Bool. -/
def inB (a b c : Int) : Bool := decide (b ≤ a) && decide (a ≤ c)
def macB (a : Int) : Bool := inB a 0 281474976710655
def ipB (a : Int) : Bool := inB a 0 4294967295
def vniB (a : Int) : Bool := inB a 1 16777215
def timeB (a : Int) : Bool := inB a 0 1000000
def houseB (a : Int) : Bool := inB a 1 4
def groupB (a : Int) : Bool := macB a && (Go.bits .and .i64 (a / 1099511627776) 1 == 1)
def guestB (a b c d e f : Int) : Bool := vniB a && (macB b && !groupB b) && ipB c && inB d 1 4 && timeB e && timeB f
theorem iteB {α : Type} (c : Bool) (x y : α) : (if c = true then x else y) = bif c then x else y := by cases c <;> rfl
theorem some_ite (c b : Bool) : (if c = true then some b else some false) = some (c && b) := by cases c <;> rfl
theorem some_iteN (c b : Bool) : (if c = true then some false else some b) = some (!c && b) := by cases c <;> rfl

end Go.Proofs.Ytpoibafjialcdaa.Base
