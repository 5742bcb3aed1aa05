/- Texts beside the shared ones. -/
import Derived.Test.YtfkekkgfmhcanaaGreatDoorTS
import Derived.Test.YtfkekkgfmhcanaaGreatDoorTA
import Derived.Test.YtfkekkgfmhcanaaGreatDoorTB
import Derived.Test.YtfkekkgfmhcanaaGreatDoorTC
import Derived.Test.YtfkekkgfmhcanaaGreatDoorTD
import Derived.Test.YtfkekkgfmhcanaaGreatDoorTE
import Derived.Test.YtfkekkgfmhcanaaGreatDoorTF
import Derived.Test.YtfkekkgfmhcanaaGreatDoorTG
import Derived.Test.YtfkekkgfmhcanaaGreatDoorTH
import Derived.Test.YtfkekkgfmhcanaaGreatDoorTI
import Derived.Test.YtfkekkgfmhcanaaGreatDoorTJ
import Derived.Test.YtfkekkgfmhcanaaGreatDoorWQJ
namespace Go.Proofs.YtfkekkgfmhcanaaGreatDoor
open Go.RowKit
open _root_.Go.Lib renaming cell_of_heap->aG
set_option maxRecDepth 100000
section
theorem d2k.cell0{W:World}{b o:Nat}{cs:List Value}{v:Value}(h:d2k W b o cs)(hv:cs[0]?=some v):W.cell? ⟨b,o,none⟩=some v:=h 0 v hv
theorem d2t.slices{p:Nat->Prop}{W:World}{q:Qu}{si sj sw sg sh so:Value}(h:d2t p W q si sj sw sg sh so):∃ai ci aj cj aw cw ag cg ah ch ao co,si= .slice ai q.items.length ci/\sj= .slice aj q.joins.length cj/\sw= .slice aw q.wher.args.length cw/\sg= .slice ag q.group.length cg/\sh= .slice ah q.having.args.length ch/\so= .slice ao q.orders.length co:=by
 obtain⟨ai,ci,e1,-⟩:=h.items.shape;obtain⟨aj,cj,e2,-⟩:=h.joins.shape;obtain⟨aw,cw,e3⟩:=h.wher.shape;obtain⟨ag,cg,e4⟩:=h.group.shape;obtain⟨ah,ch,e5⟩:=h.having.shape;obtain⟨ao,co,e6,-⟩:=h.orders.shape;exact⟨ai,ci,aj,cj,aw,cw,ag,cg,ah,ch,ao,co,e1,e2,e3,e4,e5,e6⟩
theorem d6s{w:World}{b:Nat}{q:Qu}{si sj sw sg sh so:Value}{T:TypeId}(h:w.heap[b]?=some (.cells (quC q si sj sw sg sh so).toArray T (0,0))):
  w.cell? ⟨b,0,none⟩=some (.bool q.distinct)/\w.cell? ⟨b,1,none⟩=some (si)/\w.cell? ⟨b,2,none⟩=some (S q.frm.t)/\w.cell? ⟨b,3,none⟩=some (S q.frm.al)/\w.cell? ⟨b,4,none⟩=some (sj)/\w.cell? ⟨b,5,none⟩=some (.int .i64 q.wher.k)/\w.cell? ⟨b,6,none⟩=some (.int .i64 q.wher.v.1)/\w.cell? ⟨b,7,none⟩=some (.int .i64 q.wher.v.2.1)/\w.cell? ⟨b,8,none⟩=some (S q.wher.v.2.2)/\w.cell? ⟨b,9,none⟩=some (S q.wher.t)/\w.cell? ⟨b,10,none⟩=some (S q.wher.n)/\w.cell? ⟨b,11,none⟩=some (.int .i64 q.wher.o)/\w.cell? ⟨b,12,none⟩=some (sw)/\w.cell? ⟨b,13,none⟩=some (sg)/\w.cell? ⟨b,14,none⟩=some (.int .i64 q.having.k)/\w.cell? ⟨b,15,none⟩=some (.int .i64 q.having.v.1)/\w.cell? ⟨b,16,none⟩=some (.int .i64 q.having.v.2.1)/\w.cell? ⟨b,17,none⟩=some (S q.having.v.2.2)/\w.cell? ⟨b,18,none⟩=some (S q.having.t)/\w.cell? ⟨b,19,none⟩=some (S q.having.n)/\w.cell? ⟨b,20,none⟩=some (.int .i64 q.having.o)/\w.cell? ⟨b,21,none⟩=some (sh)/\w.cell? ⟨b,22,none⟩=some (so)/\w.cell? ⟨b,23,none⟩=some (.int .i64 q.limit):=
 ⟨(aG h 0).trans rfl,(aG h 1).trans rfl,(aG h 2).trans rfl,(aG h 3).trans rfl,(aG h 4).trans rfl,(aG h 5).trans rfl,(aG h 6).trans rfl,(aG h 7).trans rfl,(aG h 8).trans rfl,(aG h 9).trans rfl,(aG h 10).trans rfl,(aG h 11).trans rfl,(aG h 12).trans rfl,(aG h 13).trans rfl,(aG h 14).trans rfl,(aG h 15).trans rfl,(aG h 16).trans rfl,(aG h 17).trans rfl,(aG h 18).trans rfl,(aG h 19).trans rfl,(aG h 20).trans rfl,(aG h 21).trans rfl,(aG h 22).trans rfl,(aG h 23).trans rfl⟩
theorem d6j{α:Type}{F:Form α}{p:Nat->Prop}{W:World}{a:Option Addr}{cap n:Nat}{l:List α}(h:d2p F p W (.slice a n cap) l):∀j,(hj:j<l.length)->∃b off s,a=some ⟨b,off,none⟩/\b<W.heap.size/\d2k W b (off+j * F.n) (F.cells l[j] s)/\bG p W s (F.ex l[j]).args:=fun j hj=>by
 obtain⟨a',cap',e,h⟩:=h.shape;obtain⟨b,off,s,ea,-,hb,hc,hr⟩:=h j hj;injection e with e1 e2 e3;exact⟨b,off,s,e1.trans ea,hb,hc,hr⟩
end
end Go.Proofs.YtfkekkgfmhcanaaGreatDoor
