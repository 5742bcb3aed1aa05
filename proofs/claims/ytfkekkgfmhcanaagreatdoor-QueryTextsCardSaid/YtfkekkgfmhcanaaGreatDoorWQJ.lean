/- Texts beside the shared ones. -/
import Derived.Test.YtfkekkgfmhcanaaGreatDoorTS
import Derived.Test.YtfkekkgfmhcanaaGreatDoorTA
import Derived.Test.YtfkekkgfmhcanaaGreatDoorTB
import Derived.Test.YtfkekkgfmhcanaaGreatDoorTC
import Derived.Test.YtfkekkgfmhcanaaGreatDoorTD
import Derived.Test.YtfkekkgfmhcanaaGreatDoorTE
import Derived.Test.YtfkekkgfmhcanaaGreatDoorTF
import Derived.Test.YtfkekkgfmhcanaaGreatDoorTG
import Derived.Test.YtfkekkgfmhcanaaGreatDoorTH
import Derived.Test.YtfkekkgfmhcanaaGreatDoorTI
import Derived.Test.YtfkekkgfmhcanaaGreatDoorTJ
namespace Go.Proofs.YtfkekkgfmhcanaaGreatDoor
open Go.RowKit
set_option maxRecDepth 100000
section
structure d9u(N:Nat)(q:Qu):Prop where
 items:∀i∈q.items,fC i.x<=N
 joins:∀j∈q.joins,fC j.on<=N
 wher:fC q.wher<=N
 group:∀x∈q.group,fC x<=N
 having:fC q.having<=N
 orders:∀o∈q.orders,fC o.x<=N
 li:q.items.length<=N
 lj:q.joins.length<=N
 lg:q.group.length<=N
 lo:q.orders.length<=N
section
variable {ts:List Tok} {k k':Nat}
end
end
end Go.Proofs.YtfkekkgfmhcanaaGreatDoor
