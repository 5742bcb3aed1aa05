/- Texts beside the shared ones. -/
import Derived.Test.YtkimpcmkminffaaGreatDoorWX0
import Derived.Test.YtkimpcmkminffaaGreatDoorWFI
import Derived.Test.YtkimpcmkminffaaGreatDoorWM3
namespace Go.Proofs.YtkimpcmkminffaaGreatDoor
open Go.RowKit
set_option maxRecDepth 100000
section
theorem rOf_kVl(t:Int)(h:I64 t)(w:World):Calls Tryz.prog 167 #[.int .i64 t] w fun e w'=>e= .returned (VlV (kVl t))/\Bl w w':=by
 have:=a9u t h.1 h.2 w;rw[of_kVl] at this;exact this
theorem and2_64(a b:Int):I64 (d2d a b):=by unfold d2d I64;repeat' split<;>omega
theorem not2_64(a:Int):I64 (c9p a):=by unfold c9p I64;repeat' split<;>omega
theorem or2_64(a b:Int):I64 (or2 a b):=not2_64 _
structure RoF(pa pb:Nat)(a b:Vl)(W A:World):Prop where
 r:A.heap[W.heap.size]?=some (.cells #[.int .i64 0,.int .i64 0,S []] 26 (0,0))
 a:A.heap[pa]?=some (.cells #[.int .i64 a.1,.int .i64 a.2.1,S a.2.2] 26 (0,0))
 b:A.heap[pb]?=some (.cells #[.int .i64 b.1,.int .i64 b.2.1,S b.2.2] 26 (0,0))
 na:W.heap.size<pa
 nb:W.heap.size<pb
 bl:Bl W A
theorem RoF.call{pa pb:Nat}{a b:Vl}{W A B:World}(h:RoF pa pb a b W A)(hb:Bl A B):RoF pa pb a b W B:=⟨keep_b h.r hb,keep_b h.a hb,keep_b h.b hb,h.na,h.nb,h.bl.call hb⟩
theorem RoF.va{pa pb:Nat}{a b:Vl}{W A:World}(h:RoF pa pb a b W A):VaF W A:=⟨h.r,h.bl⟩
theorem new_at{u X:World}{o:Obj}(_:Bl u (X.alloc o)):(X.alloc o).heap[X.heap.size]?=some o:=aN X o
end
end Go.Proofs.YtkimpcmkminffaaGreatDoor
