/- The small functions: Not, Of, the reference's And, Or, Not, Of, number, num, text. -/
import Derived.Test.YtdhaddldmooniaaGreatDoorV3
namespace Go.Proofs.YtdhaddldmooniaaGreatDoor
open Go.RowKit
set_option maxRecDepth 100000

def not2 (t : Int) : Int := if t = 0 then 1 else if t = 1 then 0 else 2
def and2 (a b : Int) : Int := if a = 0 ∨ b = 0 then 0 else if a = 1 ∧ b = 1 then 1 else 2
def or2 (a b : Int) : Int := not2 (and2 (not2 a) (not2 b))
/-- A truth as a value: its kind and its number. -/
def ofK (t : Int) : Int := if t = 0 ∨ t = 1 then 1 else 0
def ofN (t : Int) : Int := if t = 0 ∨ t = 1 then t else 0

end Go.Proofs.YtdhaddldmooniaaGreatDoor
