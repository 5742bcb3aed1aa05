/- Texts beside the shared ones. -/
import Derived.Test.YtkimpcmkminffaaGreatDoorWX0
import Derived.Test.YtkimpcmkminffaaGreatDoorWFH
namespace Go.Proofs.YtkimpcmkminffaaGreatDoor
open Go.RowKit
set_option maxRecDepth 100000
section
def overE(n:List UInt8)(rows args:Nat)(r:List Vl×Int):Vl×Int:=if r.2≠0 then(zVl,r.2) else summedV n r.1 rows args
theorem zero_err{c:Int}{v:Vl}(h:c≠0->v=zVl)(hc:c≠0):v=zVl:=h hc
end
end Go.Proofs.YtkimpcmkminffaaGreatDoor
