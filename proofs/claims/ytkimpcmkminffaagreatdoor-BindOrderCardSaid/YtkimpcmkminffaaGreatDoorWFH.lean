/- Texts beside the shared ones. -/
import Derived.Test.YtkimpcmkminffaaGreatDoorWX0
import Derived.Test.YtkimpcmkminffaaGreatDoorWFJ
import Derived.Test.YtkimpcmkminffaaGreatDoorWM6
namespace Go.Proofs.YtkimpcmkminffaaGreatDoor
open Go.RowKit
open _root_.List renaming drop_eq_getElem_cons->aZ
set_option maxRecDepth 100000
section
abbrev VE(r:Vl×Int):Ending:= .returned (.tuple #[VlV r.1,.int .i64 r.2])
structure WkF(c:Array Value)(W A:World):Prop where
 x:A.heap[W.heap.size]?=some (.cells c 30 (0,0))
 r:A.heap[W.heap.size+1]?=some (.cells #[.int .i64 0,.int .i64 0,S []] 26 (0,0))
 bl:Bl W A
theorem WkF.call{c:Array Value}{W A B:World}(h:WkF c W A)(hb:Bl A B):WkF c W B:=⟨keep_b h.x hb,keep_b h.r hb,h.bl.call hb⟩
theorem seqV_len(l:List (Vl×Int)):(seqV l).1.length<=l.length:=seq_len l
theorem firstV_drop{l:List Vl}{j:Nat}(hj:j<l.length):firstV (l.drop j)=if l[j].1≠0 then l[j] else firstV (l.drop (j+1)):=by
 rw[aZ hj];rfl
def manyE(k o:Int)(r:List Vl×Int):Vl×Int:=if r.2≠0 then(zVl,r.2) else if k=3 then doO o r.1 else(firstV r.1,0)
end
end Go.Proofs.YtkimpcmkminffaaGreatDoor
