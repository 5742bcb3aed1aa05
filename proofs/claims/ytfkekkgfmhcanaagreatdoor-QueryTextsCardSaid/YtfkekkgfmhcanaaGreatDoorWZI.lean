/- Texts beside the shared ones. -/
import Derived.Test.YtfkekkgfmhcanaaGreatDoorTS
import Derived.Test.YtfkekkgfmhcanaaGreatDoorTA
import Derived.Test.YtfkekkgfmhcanaaGreatDoorTB
import Derived.Test.YtfkekkgfmhcanaaGreatDoorTC
import Derived.Test.YtfkekkgfmhcanaaGreatDoorTD
import Derived.Test.YtfkekkgfmhcanaaGreatDoorTE
import Derived.Test.YtfkekkgfmhcanaaGreatDoorTF
import Derived.Test.YtfkekkgfmhcanaaGreatDoorTG
import Derived.Test.YtfkekkgfmhcanaaGreatDoorTH
import Derived.Test.YtfkekkgfmhcanaaGreatDoorTI
import Derived.Test.YtfkekkgfmhcanaaGreatDoorTJ
import Derived.Test.YtfkekkgfmhcanaaGreatDoorWZF
import Derived.Test.YtfkekkgfmhcanaaGreatDoorWQJ
namespace Go.Proofs.YtfkekkgfmhcanaaGreatDoor
open Go.RowKit
open _root_.Array renaming getElem?_eq_some_iff->aC
set_option maxRecDepth 100000
section
theorem keep1{A B:World}{b:Nat}{o:Obj}(h:A.heap[b]?=some o)(hb:Bl A B):B.heap[b]?=some o:=(hb.block _ (aC.1 h).1).trans h
end
end Go.Proofs.YtfkekkgfmhcanaaGreatDoor
