/- Texts beside the shared ones. -/
import Derived.Test.YtkimpcmkminffaaGreatDoorWX0
import Derived.Test.YtkimpcmkminffaaGreatDoorWFS
namespace Go.Proofs.YtkimpcmkminffaaGreatDoor
open Go.RowKit
set_option maxRecDepth 100000
section
structure LwF(c:Array Value)(W A:World):Prop where
 x:A.heap[W.heap.size]?=some (.cells c 30 (0,0))
 bl:Bl W A
theorem LwF.call{c:Array Value}{W A B:World}(h:LwF c W A)(hb:Bl A B):LwF c W B:=⟨keep_b h.x hb,h.bl.call hb⟩
theorem LwF.start(c:Array Value)(W:World):LwF c W (W.alloc (.cells c 30)):=⟨aN W _,(Bl.refl W).alloc _⟩
end
end Go.Proofs.YtkimpcmkminffaaGreatDoor
