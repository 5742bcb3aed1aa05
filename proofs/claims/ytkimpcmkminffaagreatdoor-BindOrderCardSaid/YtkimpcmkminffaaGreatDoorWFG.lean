/- Texts beside the shared ones. -/
import Derived.Test.YtkimpcmkminffaaGreatDoorWX0
import Derived.Test.YtkimpcmkminffaaGreatDoorWFE
namespace Go.Proofs.YtkimpcmkminffaaGreatDoor
open Go.RowKit
open _root_.List renaming drop_eq_getElem_cons->aZ
set_option maxRecDepth 100000
section
theorem vl1:(Tryz.prog.info? 26).map (fun i=>(i.zero.isSome,i.size))=some (true,3):=by kernel_rfl
theorem filter_snoc{α:Type}(p:α->Bool)(l:List α){j:Nat}(hj:j<l.length):(l.take (j+1)).filter p=(l.take j).filter p++if p l[j] then[l[j]] else[]:=by
 rw[takeD_snoc l hj,List.filter_append]
 congr 1
 cases h:p l[j]<;>simp[h]
theorem anyD_drop'{α:Type}(p:α->Bool){l:List α}{j:Nat}(hj:j<l.length):(l.drop j).any p=(p l[j]||(l.drop (j+1)).any p):=anyD_drop p hj
theorem foldl_drop{α:Type}(f:α->α->α)(m:α){r:List α}{j:Nat}(hj:j<r.length):(r.drop j).foldl f m=(r.drop (j+1)).foldl f (f m r[j]):=by
 rw[aZ hj];rfl
theorem rsum_count{n:List UInt8}{l:List Vl}{rows args:Nat}(h:n=gX):summedV n l rows args=(((2,((if args=0 then rows else(l.filter fun v=>v.1 != 0).length:Nat):Int),[]):Vl),(0:Int)):=by unfold summedV;simp only;rw[if_pos h]
theorem rsum_none{n:List UInt8}{l:List Vl}{rows args:Nat}(h:n≠gX)(h2:(l.filter fun v=>v.1 != 0)=[]):summedV n l rows args=(zVl,0):=by unfold summedV;simp only;rw[if_neg h,h2]
theorem rsum_sum{n:List UInt8}{l:List Vl}{rows args:Nat}(hn:n=c1m)(h2:(l.filter fun v=>v.1 != 0)≠[]):summedV n l rows args=if(l.filter fun v=>v.1 != 0).any (fun v=>v.1 != 2) then(zVl,120) else totalV (l.filter fun v=>v.1 != 0):=by
 unfold summedV;simp only;rw[if_neg (by rw[hn];decide)];cases h:l.filter fun v=>v.1 != 0 with
 |nil=>exact absurd h h2
 |cons a r=>simp only;rw[if_pos hn]
theorem rsum_best{n:List UInt8}{l:List Vl}{rows args:Nat}{a:Vl}{r:List Vl}(h:n≠gX)(hn:n≠c1m)(h2:(l.filter fun v=>v.1 != 0)=a::r):summedV n l rows args=(r.foldl (bestV (n==c1n)) a,0):=by
 unfold summedV;simp only;rw[if_neg h,h2];simp only;rw[if_neg hn]
structure VaF(W A:World):Prop where
 r:A.heap[W.heap.size]?=some (.cells #[.int .i64 0,.int .i64 0,S []] 26 (0,0))
 bl:Bl W A
theorem VaF.call{W A B:World}(h:VaF W A)(hb:Bl A B):VaF W B:=⟨keep_b h.r hb,h.bl.call hb⟩
theorem VaF.start(W:World):VaF W (W.alloc (.cells #[.int .i64 0,.int .i64 0,S []] 26)):=⟨aN W _,(Bl.refl W).alloc _⟩
end
end Go.Proofs.YtkimpcmkminffaaGreatDoor
