/- cmp.Compare, cmp.Or and value.Order. -/
import Derived.Test.YtdhaddldmooniaaGreatDoorV1
import Derived.Lib.Hide
import Derived.StillTailTactics
namespace Go.Proofs.YtdhaddldmooniaaGreatDoor
open Go.RowKit
set_option maxRecDepth 100000

def cmpI (a b : Int) : Int := if a < b then -1 else if b < a then 1 else 0
def cmpS (a b : List UInt8) : Int := if Op.bytesLess a b then -1 else if a = b then 0 else 1
def first3 (x y z : Int) : Int := if x ≠ 0 then x else if y ≠ 0 then y else z
def cmpV (k n : Int) (l : List UInt8) (k' n' : Int) (l' : List UInt8) : Int := first3 (cmpI k k') (cmpI n n') (cmpS l l')

end Go.Proofs.YtdhaddldmooniaaGreatDoor
