/- Texts beside the shared ones. -/
import Derived.Test.YtfkekkgfmhcanaaGreatDoorTS
import Derived.Test.YtfkekkgfmhcanaaGreatDoorTA
import Derived.Test.YtfkekkgfmhcanaaGreatDoorTB
import Derived.Test.YtfkekkgfmhcanaaGreatDoorTC
import Derived.Test.YtfkekkgfmhcanaaGreatDoorTD
import Derived.Test.YtfkekkgfmhcanaaGreatDoorTE
import Derived.Test.YtfkekkgfmhcanaaGreatDoorTF
import Derived.Test.YtfkekkgfmhcanaaGreatDoorTG
import Derived.Test.YtfkekkgfmhcanaaGreatDoorTH
import Derived.Test.YtfkekkgfmhcanaaGreatDoorTI
import Derived.Test.YtfkekkgfmhcanaaGreatDoorTJ
import Derived.Deep.CutBlock
namespace Go.Proofs.YtfkekkgfmhcanaaGreatDoor
open Go.RowKit
open _root_.Nat renaming le_trans->jH
set_option maxRecDepth 100000
section
abbrev zQL:List Value:=[.bool false,.slice none 0 0,S [],S [],.slice none 0 0,.int .i64 0,.int .i64 0,.int .i64 0,S [],S [],S [],.int .i64 0,.slice none 0 0,.slice none 0 0,.int .i64 0,.int .i64 0,.int .i64 0,S [],S [],S [],.int .i64 0,.slice none 0 0,.slice none 0 0,.int .i64 0]
structure YQ(W A:World)(g n cap k:Nat)(q:Qu)(si sj sw sg sh so:Value):Prop where
 f:Fx W A (sC g n cap k) zSt 36 zQL
 m:A.heap[W.heap.size+3]?=some (.cells (quC q si sj sw sg sh so).toArray 36 (0,0))
 p:d2t (fun b=>W.heap.size+4<=b) A q si sj sw sg sh so
section
variable {W A B:World} {g n cap k k':Nat} {q q':Qu} {si sj sw sg sh so si' sj' sw' sg' sh' so':Value}
theorem YQ.size(h:YQ W A g n cap k q si sj sw sg sh so):W.heap.size+3<A.heap.size:=lt_of_heap h.m
theorem YQ.call(h:YQ W A g n cap k q si sj sw sg sh so)(hb:Bl A B):YQ W B g n cap k q si sj sw sg sh so:=⟨h.f.call hb,(hb.block _ h.size).trans h.m,h.p.bl hb⟩
theorem Fx.own{W A B:World}{cs rs xs:List Value}{T:TypeId}{r:Option Nat}(h:Fx W A cs rs T xs)(hg:A.grownBy B r)(hr:∀j,r=some j->W.heap.size+3<=j):Fx W B cs rs T xs:=
 ⟨h.toFs.own hg (fun j e=>by have:=hr j e;omega),(hg.block _ h.size (fun e=>by have:=hr _ e.symm;omega)).trans h.x⟩
structure YJ(W A:World)(g n cap N k:Nat)(d:Bool)(items:List It)(frm:So)(si v:Value)(acc:List (Jo×Value)):Prop where
 f:Fx W A (sC g n cap k) zSt 36 zQL
 m:A.heap[W.heap.size+3]?=some (.cells (quC ⟨d,items,frm,[],zeroE,[],zeroE,[],-1⟩ si v d2i d2i d2i d2i).toArray 36 (0,0))
 i:d2p fIt (fun b=>W.heap.size+4<=b/\b<N) A si items
 o:A.ownsRow N 78 10 v acc.length (d4w fJo acc)
 r:∀q∈acc,bG (fun b=>N<=b/\some b≠v.ownBlock) A q.2 (Form.ex fJo q.1).args
 z:N<=A.heap.size
 y:W.heap.size+4<=N
variable {N:Nat} {d:Bool} {items:List It} {frm:So} {v:Value} {acc:List (Jo×Value)} {b:Nat}
theorem YJ.size(h:YJ W A g n cap N k d items frm si v acc):W.heap.size+3<A.heap.size:=lt_of_heap h.m
theorem YJ.call(h:YJ W A g n cap N k d items frm si v acc)(hb:Bl A B):YJ W B g n cap N k d items frm si v acc:=
 ⟨h.f.call hb,(hb.block _ h.size).trans h.m,h.i.bl hb,gY hb h.o,fun q hq=>(h.r q hq).bl hb,jH h.z hb.size,h.y⟩
theorem YJ.round(h:YJ W A g n cap N k d items frm si v acc)(hB:But b A B)(hb:N<=b)(hv:some b≠v.ownBlock)(hr:∀q∈acc,bG (fun i=>N<=i/\some i≠v.ownBlock) B q.2 (Form.ex fJo q.1).args):YJ W B g n cap N k d items frm si v acc:=
 have hy:=h.y
 ⟨h.f.other hB (by omega),(hB.same _ (by omega)).trans h.m,h.i.but hB (fun i hi=>by omega),d8t h.o hB hv,hr,by rw[hB.size];exact h.z,h.y⟩
end
end
end Go.Proofs.YtfkekkgfmhcanaaGreatDoor
