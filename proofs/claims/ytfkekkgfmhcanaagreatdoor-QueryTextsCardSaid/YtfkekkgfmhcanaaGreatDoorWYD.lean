/- Texts beside the shared ones. -/
import Derived.Test.YtfkekkgfmhcanaaGreatDoorTS
import Derived.Test.YtfkekkgfmhcanaaGreatDoorTA
import Derived.Test.YtfkekkgfmhcanaaGreatDoorTB
import Derived.Test.YtfkekkgfmhcanaaGreatDoorTC
import Derived.Test.YtfkekkgfmhcanaaGreatDoorTD
import Derived.Test.YtfkekkgfmhcanaaGreatDoorTE
import Derived.Test.YtfkekkgfmhcanaaGreatDoorTF
import Derived.Test.YtfkekkgfmhcanaaGreatDoorTG
import Derived.Test.YtfkekkgfmhcanaaGreatDoorTH
import Derived.Test.YtfkekkgfmhcanaaGreatDoorTI
import Derived.Test.YtfkekkgfmhcanaaGreatDoorTJ
import Derived.Test.YtfkekkgfmhcanaaGreatDoorWYC
namespace Go.Proofs.YtfkekkgfmhcanaaGreatDoor
open Go.RowKit
open _root_.Go.RowKit.Below renaming grown->iL
open _root_.List renaming length_append->bD,mem_append->iX,mem_singleton->gQ
open _root_.Nat renaming le_trans->jH
open _root_.Go.World renaming block_lt_of_cell?->bB
set_option maxRecDepth 100000
section
structure YH(P:Nat->Prop)(W A:World)(g n cap k:Nat)(q:Qu)(si sj sw sg sh so:Value):Prop where
 bl:Bl W A
 s:A.heap[W.heap.size]?=some (.cells (sC g n cap k).toArray 54 (0,0))
 m:A.heap[W.heap.size+1]?=some (.cells (quC q si sj sw sg sh so).toArray 36 (0,0))
 r:A.heap[W.heap.size+2]?=some (.cells zSt.toArray 54 (0,0))
 x:A.heap[W.heap.size+3]?=some (.cells zQL.toArray 36 (0,0))
 p:d2t (fun b=>(P b/\b<W.heap.size)\/W.heap.size+4<=b) A q si sj sw sg sh so
section
variable {P:Nat->Prop} {W A B:World} {g n cap k k':Nat} {q q':Qu} {si sj sw sg sh so si' sj' sw' sg' sh' so':Value} {b:Nat}
theorem YH.size(h:YH P W A g n cap k q si sj sw sg sh so):W.heap.size+3<A.heap.size:=lt_of_heap h.x
theorem YH.call(h:YH P W A g n cap k q si sj sw sg sh so)(hb:Bl A B):YH P W B g n cap k q si sj sw sg sh so:=
 ⟨h.bl.call hb,(hb.block _ (lt_of_heap h.s)).trans h.s,(hb.block _ (lt_of_heap h.m)).trans h.m,(hb.block _ (lt_of_heap h.r)).trans h.r,(hb.block _ h.size).trans h.x,h.p.bl hb⟩
theorem YH.other(h:YH P W A g n cap k q si sj sw sg sh so)(hB:But b A B)(hb:W.heap.size+4<=b)(hp:d2t (fun b=>(P b/\b<W.heap.size)\/W.heap.size+4<=b) B q si sj sw sg sh so):YH P W B g n cap k q si sj sw sg sh so:=
 ⟨h.bl.but hB (by omega),(hB.same _ (by omega)).trans h.s,(hB.same _ (by omega)).trans h.m,(hB.same _ (by omega)).trans h.r,(hB.same _ (by omega)).trans h.x,hp⟩
theorem YH.results(hx:A.heap[W.heap.size+3]?=some (.cells (quC q si sj sw sg sh so).toArray 36 (0,0)))(hr':A.heap[W.heap.size+2]?=some (.cells (sC g n cap k).toArray 54 (0,0))){fn:Func}{p t:Tmp}{r:Tmp}{tmps:Array Value}(hr:fn.results= #[.cell p 54,.cell t 36,.tmp r])
  (hp:tmps.getD p undef= .pointer (some ⟨W.heap.size+2,0,none⟩)) (hq:tmps.getD t undef= .pointer (some ⟨W.heap.size+3,0,none⟩)):(results fn tmps).run Tryz.prog A= .ok (.tuple #[RS g n cap k,QV q si sj sw sg sh so,tmps.getD r undef]) A:=by
 have hp':tmps[p]?.getD undef= .pointer (some ⟨W.heap.size+2,0,none⟩):=(by simpa using hp);have hq':tmps[t]?.getD undef= .pointer (some ⟨W.heap.size+3,0,none⟩):=(by simpa using hq);have h1:=run_loadVar_row (P:=Tryz.prog) A _ 54 54 _ (0,0) _ hr' Tryz.underlying54 rfl d2j;have h2:=run_loadVar_row (P:=Tryz.prog) A _ 36 36 _ (0,0) _ hx Tryz.underlying36 rfl tC;simp[Go.results,hr,hp',hq',asAddr,h1,h2];rfl
end
theorem At8.lt'{W:World}{b o:Nat}{x:Ex}{sv:Value}(h:At8 W b o x sv):b<W.heap.size:=by have:=bB _ _ h.1;simpa using this
structure YG(W A:World)(g n cap N k:Nat)(q:Qu)(si sj sw v lv:Value)(l:List Od)(acc:List (Ex×Value)):Prop where
 bl:Bl W A
 s:A.heap[W.heap.size]?=some (.cells (sC g n cap k).toArray 54 (0,0))
 m:A.heap[W.heap.size+1]?=some (.cells (quC q si sj sw v d2i d2i).toArray 36 (0,0))
 r:A.heap[W.heap.size+2]?=some (.cells zSt.toArray 54 (0,0))
 x:A.heap[W.heap.size+3]?=some (.cells zQL.toArray 36 (0,0))
 lr:d2p fOd (fun b=>W.heap.size+4<=b/\b<N) A lv l
 o:A.ownsRow N 33 8 v acc.length (d4w fEx acc)
 e:∀y∈acc,bG (fun b=>W.heap.size+4<=b/\b<N) A y.2 y.1.args
 z:N<=A.heap.size
 y:W.heap.size+4<=N
section
variable {P:Nat->Prop} {W A B A1 A2:World} {g n cap N k:Nat} {q:Qu} {si sj sw v v' lv:Value} {l:List Od} {acc:List (Ex×Value)}
theorem YG.size(h:YG W A g n cap N k q si sj sw v lv l acc):W.heap.size+3<A.heap.size:=lt_of_heap h.x
theorem YG.round(h:YG W A g n cap N k q si sj sw v lv l acc)(hb:Bl A A1){y:Ex}{s:Value}(hr:bG (fun b=>W.heap.size+4<=b/\b<N) A s y.args)(ho:A2.ownsRow N 33 8 v' (acc.length+1) (d4w fEx (acc++[(y,s)])))(hg:A1.grownBy A2 v.ownBlock)(hB:But (W.heap.size+1) A2 B)
  (hx:B.heap[W.heap.size+1]?=some (.cells (quC q si sj sw v' d2i d2i).toArray 36 (0,0))):YG W B g n cap N k q si sj sw v' lv l (acc++[(y,s)]):=by
 have hlow:=h.o.lt;have hy:=h.y;have hs:=h.size;have hz:=h.z;have hbs:=hb.size;have hne:∀i,i<N->some i≠v.ownBlock:=fun i hi e=>(by have:=(hlow i e.symm).1;omega);have hk:∀i,i<N->i≠W.heap.size+1->B.heap[i]?=A.heap[i]?:=fun i hi h1=>(hB.same i h1).trans ((hg.block i (by omega) (hne i hi)).trans (hb.block i (by omega)));have hbA2:Bl W A2:=iL (h.bl.call hb) hg (h.bl.call hb).size (fun j e=>by have:=(hlow j e).1;omega);refine⟨hbA2.but hB (by omega),(hk _ (by omega) (by omega)).trans h.s,hx,(hk _ (by omega) (by omega)).trans h.r,(hk _ (by omega) (by omega)).trans h.x,?_,?_,?_,?_,hy⟩
 ·exact h.lr.keep (by rw[hB.size];exact jH hbs hg.4) (fun _ h=>h) fun b hp _=>hk b hp.2 (by omega)
 ·rw[bD];exact d3q ho hB (by omega)
 ·intro u hu;rcases iX.1 hu with hu|hu
  ·exact(h.e u hu).keep (fun _ h=>h) fun b hp _=>hk b hp.2 (by omega)
  ·obtain rfl:=gQ.1 hu;exact hr.keep (fun _ h=>h) fun b hp _=>hk b hp.2 (by omega)
 ·rw[hB.size];have:=hg.4;omega
end
end
end Go.Proofs.YtfkekkgfmhcanaaGreatDoor
