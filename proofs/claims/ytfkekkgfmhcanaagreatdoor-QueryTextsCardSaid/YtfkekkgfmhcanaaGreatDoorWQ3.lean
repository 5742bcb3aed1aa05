/- Texts beside the shared ones. -/
import Derived.Test.YtfkekkgfmhcanaaGreatDoorTS
import Derived.Test.YtfkekkgfmhcanaaGreatDoorTA
import Derived.Test.YtfkekkgfmhcanaaGreatDoorTB
import Derived.Test.YtfkekkgfmhcanaaGreatDoorTC
import Derived.Test.YtfkekkgfmhcanaaGreatDoorTD
import Derived.Test.YtfkekkgfmhcanaaGreatDoorTE
import Derived.Test.YtfkekkgfmhcanaaGreatDoorTF
import Derived.Test.YtfkekkgfmhcanaaGreatDoorTG
import Derived.Test.YtfkekkgfmhcanaaGreatDoorTH
import Derived.Test.YtfkekkgfmhcanaaGreatDoorTI
import Derived.Test.YtfkekkgfmhcanaaGreatDoorTJ
namespace Go.Proofs.YtfkekkgfmhcanaaGreatDoor
open Go.RowKit
open _root_.List renaming append_assoc->iK
set_option maxRecDepth 100000
section
theorem Lx.app{s t:List UInt8}{a b:List kG}(h:Lx s a)(k:Lx t b)(ht:∀r,yL r->yL (t++r)):Lx (s++t) (a++b):=fun r hr=>by
 rw[iK,h _ (ht r hr),k r hr,d1b]
theorem Lx.nil:Lx [] []:=fun r _=>by simp
theorem Lx.blank{s:List UInt8}{a:List kG}(h:Lx s a):Lx (32::s) a:=fun r hr=>by
 show bt (32::(s++r))=_;rw[nZ,h r hr]
theorem end_blank(s r:List UInt8):yL (32::s++r):=yL.of _ (by decide) (by decide)
def Bl32(o:List UInt8):Prop:=o=[]\/∃s,o=32::s
theorem Bl32.fin{o:List UInt8}(h:Bl32 o):∀r,yL r->yL (o++r):=by
 intro r hr;rcases h with rfl|⟨s,rfl⟩
 ·exact hr
 ·exact end_blank s r
structure FitsQ(q:Qu):Prop where
 items:∀i∈q.items,Fits i.x
 joins:∀j∈q.joins,Fits j.on
 wher:Fits q.wher
 group:∀x∈q.group,Fits x
 having:Fits q.having
 orders:∀o∈q.orders,Fits o.x
 limit:I64 q.limit
end
end Go.Proofs.YtfkekkgfmhcanaaGreatDoor
