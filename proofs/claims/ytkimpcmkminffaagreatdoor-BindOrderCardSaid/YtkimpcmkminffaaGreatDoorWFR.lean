/- Texts beside the shared ones. -/
import Derived.Test.YtkimpcmkminffaaGreatDoorWX0
import Derived.Test.YtkimpcmkminffaaGreatDoorWFP
import Derived.Test.YtkimpcmkminffaaGreatDoorWM7
namespace Go.Proofs.YtkimpcmkminffaaGreatDoor
open Go.RowKit
set_option maxRecDepth 100000
section
theorem one_row20{W:World}{g:Nat}{s:Value}{r:List Vl}{t:TypeId}(h:W.heap[g]?=some (.cells #[s] t (0,0)))(hr:ReadsVl (fun _=>True) W s r):ReadsRw (fun _=>True) W (.slice (some ⟨g,0,none⟩) 1 1) [r]:=one_row h hr
theorem int2_z:Int2 zVl:=⟨by unfold I64 zVl;decide,by unfold I64 zVl;decide⟩
end
end Go.Proofs.YtkimpcmkminffaaGreatDoor
