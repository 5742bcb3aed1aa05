/- Texts MC X7 X8. -/
import Derived.Test.YtfkekkgfmhcanaaGreatDoorTD
import Derived.Test.YtfkekkgfmhcanaaGreatDoorTC
import Derived.Deep.CutBlock
namespace Go.Proofs.YtfkekkgfmhcanaaGreatDoor
open Go.RowKit
open _root_.Array renaming getElem?_eq_some_iff->aC
set_option maxRecDepth 100000
section
end
section
structure FrT(W w':World)(g n cap k:Nat)(sv:Value)(l:List Int):Prop where
 bl:Bl W w'
 s:w'.heap[W.heap.size]?=some (.cells #[.slice (some ⟨g,0,none⟩) n cap,.int .i64 (k:Int)] 54 (0,0))
 r:w'.heap[W.heap.size+1]?=some (.cells #[.slice none 0 0,.int .i64 0] 54 (0,0))
 ints:b3j w' sv l
 far:∀a m c,sv= .slice (some a) m c->W.heap.size+1<a.block
theorem FrT.next{W A B:World}{g n cap k:Nat}{sv:Value}{l:List Int}(h:FrT W A g n cap k sv l)(hb:Bl A B):FrT W B g n cap k sv l:=
 ⟨h.bl.call hb,(hb.block _ (aC.1 h.s).1).trans h.s,(hb.block _ (aC.1 h.r).1).trans h.r,h.ints.bl hb,h.far⟩
end
section
end
section
end
section
end
section
end
end Go.Proofs.YtfkekkgfmhcanaaGreatDoor
