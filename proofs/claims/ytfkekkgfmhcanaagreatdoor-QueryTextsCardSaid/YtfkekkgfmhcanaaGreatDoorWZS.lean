/- Texts beside the shared ones. -/
import Derived.Test.YtfkekkgfmhcanaaGreatDoorTS
import Derived.Test.YtfkekkgfmhcanaaGreatDoorTA
import Derived.Test.YtfkekkgfmhcanaaGreatDoorTB
import Derived.Test.YtfkekkgfmhcanaaGreatDoorTC
import Derived.Test.YtfkekkgfmhcanaaGreatDoorTD
import Derived.Test.YtfkekkgfmhcanaaGreatDoorTE
import Derived.Test.YtfkekkgfmhcanaaGreatDoorTF
import Derived.Test.YtfkekkgfmhcanaaGreatDoorTG
import Derived.Test.YtfkekkgfmhcanaaGreatDoorTH
import Derived.Test.YtfkekkgfmhcanaaGreatDoorTI
import Derived.Test.YtfkekkgfmhcanaaGreatDoorTJ
import Derived.Test.YtfkekkgfmhcanaaGreatDoorWZF
import Derived.Test.YtfkekkgfmhcanaaGreatDoorWOQ
import Derived.Test.YtfkekkgfmhcanaaGreatDoorWQ3
namespace Go.Proofs.YtfkekkgfmhcanaaGreatDoor
open Go.RowKit
open _root_.Bool renaming and_eq_true->aQ,not_eq_true'->nT,or_eq_true->jO
open _root_.Go.Lib renaming itoa->dQ
open _root_.List renaming all_eq_true->jA,length_append->bD,length_cons->aX,length_map->mD,length_nil->bL
open _root_.Nat renaming le_trans->jH,zero_le->dL
set_option maxRecDepth 100000
section
theorem join_le{s:List UInt8}{B:Nat}:∀{l:List (List UInt8)},(∀x∈l,x.length<=B)->(jR s l).length<=l.length * (B+s.length)
 |[],_=>dL _
 |[x],h=>by
  have:=h x (by simp);simp only[jR,aX,bL];omega
 |x::y::r,h=>by
  have h1:=h x (by simp);have h2:=join_le (s:=s) (B:=B) (l:=y::r) (fun z hz=>h z (List.mem_cons_of_mem _ hz));simp only[jR,bD,aX] at h2⊢;rw[Nat.add_mul];omega
theorem flat_le{α:Type}{f:α->List UInt8}{B:Nat}:∀{l:List α},(∀x∈l,(f x).length<=B)->(l.flatMap f).length<=l.length * B
 |[],_=>dL _
 |x::r,h=>by
  have h1:=h x (by simp);have h2:=flat_le (f:=f) (B:=B) (l:=r) (fun z hz=>h z (List.mem_cons_of_mem _ hz));simp only[List.flatMap_cons,bD,aX,Nat.add_mul] at h2⊢;omega
theorem named_le(s al:List UInt8):(d4t s al).length<=s.length+al.length+4:=by
 unfold d4t;split
 ·omega
 ·simp only[wAs,bD,aX,bL];omega
theorem or_of{a b:Bool}(h:a=true\/b=true)(hn:a=false):b=true:=by
 rcases h with h|h
 ·rw[hn] at h;cases h
 ·exact h
theorem few_ex{x:Ex}(hv:vastB x=false)(hg:GoodE x):e0m x/\fC x<=40/\(eH x=true->(eY x).length<=404160):=by
 have h1:¬40<partsV 200 40 x:=of_decide_eq_false hv;obtain⟨h2,h3⟩:=c2s 200 40 x (by omega);have h4:eH x=true->(eY x).length<=404160:=fun hC=>by
  have:=c2q x (h3.mono (by decide)) hg.1 hC;omega
 exact⟨⟨by omega,h3.lens (by decide),hg.1,fun hC=>jH (h4 hC) (by decide)⟩,by omega,h4⟩
theorem short_so{s:So}(h:shortB s=true):s.t.length<=100/\s.al.length<=100:=by
 simp only[shortB,aQ,nT,decide_eq_false_iff_not] at h;omega
theorem so_ok{s:So}(h:shortB s=true):e7e s:=⟨jH (short_so h).1 (by decide),jH (short_so h).2 (by decide)⟩
theorem opt_le{b:Bool}{w t:List UInt8}{B:Nat}(hw:w.length<=12)(h:b=false->t.length<=B):(if b=true then[] else[32]++w++[32]++t:List UInt8).length<=B+20:=by
 cases b
 ·have:=h rfl;simp;omega
 ·simp
theorem its_le{l:List It}(n1:¬40<l.length)(hi:l.all fitI=true)(hg:∀i∈l,GoodE i.x)(hr:∀i∈l,d3r i=true):(d5q l).length<=40 * (404400+2):=by
 have hi:=jA.1 hi;refine jH (join_le (B:=404400) fun t m=>?_) (by simp only[mD,aX,bL];omega);obtain⟨i,mi,rfl⟩:=List.mem_map.1 m;have h1:=hi i mi;simp only[fitI,aQ,nT,decide_eq_false_iff_not] at h1;have hr1:=hr i mi;unfold d3r at hr1;unfold d5x;split
 ·split<;>simp;omega
 ·rename_i hst;rw[if_neg hst] at hr1;simp only[aQ] at hr1;have:=(few_ex h1.1.1 (hg i mi)).2.2 hr1.1.2;have:=named_le (eY i.x) i.al;omega
theorem few_ok{q:Qu}(hg:GoodQ q)(h:fewB q=true):e1a q/\FitsQ q/\d9u 1000000 q:=by
 simp only[fewB,fitsB17,aQ,nT,decide_eq_false_iff_not] at h;obtain⟨⟨⟨⟨⟨⟨⟨⟨⟨⟨n1,n2⟩,n3⟩,n4⟩,hw⟩,hh⟩,hs⟩,hj⟩,hgr⟩,ho⟩,hi,n5⟩:=h;have hi0:=hi;have hi:=jA.1 hi;have hj:=jA.1 hj;have hgr:=jA.1 hgr;have ho:=jA.1 ho;have I:∀i∈q.items,vastB i.x=false/\i.t.length<=100/\i.al.length<=100:=fun i m=>by
  have:=hi i m;simp only[fitI,aQ,nT,decide_eq_false_iff_not] at this;exact⟨this.1.1,by omega,by omega⟩
 have J:∀j∈q.joins,vastB j.on=false/\shortB j.s=true:=fun j m=>by
  have:=hj j m;simp only[joinB17,aQ,nT] at this;exact this
 have G:∀x∈q.group,vastB x=false:=fun x m=>by
  have:=hgr x m;simpa using this
 have O:∀o∈q.orders,vastB o.x=false:=fun o m=>by
  have:=ho o m;simpa using this
 have EI:=fun i m=>few_ex (I i m).1 (hg.items i m);have EJ:=fun j m=>few_ex (J j m).1 (hg.joins j m);have EG:=fun x m=>few_ex (G x m) (hg.group x m);have EO:=fun o m=>few_ex (O o m) (hg.orders o m);have EW:=few_ex hw hg.wher;have EH:=few_ex hh hg.having;have hlim:=hg.limit;refine⟨⟨fun i m=>⟨(EI i m).1,jH (I i m).2.1 (by decide),jH (I i m).2.2 (by decide)⟩,so_ok hs,fun j m=>⟨so_ok (J j m).2,(EJ j m).1⟩,EW.1,fun x m=>(EG x m).1,EH.1,fun o m=>(EO o m).1,by omega,by omega,by omega,by omega,fun hr=>?_,hlim⟩,⟨fun i m=>(hg.items i m).1,fun j m=>(hg.joins j m).1,hg.wher.1,fun x m=>(hg.group x m).1,hg.having.1,fun o m=>(hg.orders o m).1,hlim⟩,
  ⟨fun i m=>jH (EI i m).2.1 (by decide),fun j m=>jH (EJ j m).2.1 (by decide),jH EW.2.1 (by decide),fun x m=>jH (EG x m).2.1 (by decide),jH EH.2.1 (by decide),fun o m=>jH (EO o m).2.1 (by decide),by omega,by omega,by omega,by omega⟩⟩
 unfold d3e d4l at hr;simp only[aQ,jO,decide_eq_true_eq] at hr;obtain⟨⟨⟨⟨⟨⟨⟨⟨⟨-,-⟩,ri⟩,-⟩,rw'⟩,rh⟩,-⟩,-,rj⟩,-,rg⟩,-,ro⟩:=hr;have ri:=jA.1 ri;have rj:=jA.1 rj;have rg:=jA.1 rg;have ro:=jA.1 ro;have t1:=its_le n1 hi0 hg.items ri;have t2:(d4g q.frm).length<=204:=jH (named_le _ _) (by have:=short_so hs;omega);have t3:(q.joins.flatMap e0o).length<=40 * 404400:=by
  refine jH (flat_le (B:=404400) fun j m=>?_) (by omega);have hr1:=rj j m;simp only[aQ] at hr1;have h1:=(EJ j m).2.2 hr1.2;have h2:=short_so (J j m).2;have h3:=named_le j.s.t j.s.al;simp only[e0o,d4g,d5v,wOn,bD,aX,bL];omega
 have t4:=opt_le (b:=d3i q.wher) (w:=d6o) (t:=eY q.wher) (B:=404160) (by decide) (fun hn=>EW.2.2 (or_of rw' hn));have t6:=opt_le (b:=d3i q.having) (w:=d3v) (t:=eY q.having) (B:=404160) (by decide) (fun hn=>EH.2.2 (or_of (rh.imp_right fun h=>h.1) hn));have t5:(jR [44,32] (q.group.map eY)).length<=40 * (404160+2):=by
  refine jH (join_le (B:=404160) fun t m=>?_) (by simp only[mD,aX,bL];omega);obtain⟨x,mx,rfl⟩:=List.mem_map.1 m;exact(EG x mx).2.2 (rg x mx)
 have t7:(jR [44,32] (q.orders.map d4r)).length<=40 * (404170+2):=by
  refine jH (join_le (B:=404170) fun t m=>?_) (by simp only[mD,aX,bL];omega);obtain⟨o,mo,rfl⟩:=List.mem_map.1 m;have:=(EO o mo).2.2 (ro o mo);unfold d4r;split<;>simp[d4e]<;>omega
 have t8:=Lib.itoa_length_le q.limit hlim.1 hlim.2;have t9:(if q.group=[] then[] else[32]++d4q++[32]++wBy++[32]++jR [44,32] (q.group.map eY):List UInt8).length<=40 * (404160+2)+20:=by
  split
  ·simp
  ·simp[d4q,wBy];omega
 have t10:(if q.orders=[] then[] else[32]++d5n++[32]++wBy++[32]++jR [44,32] (q.orders.map d4r):List UInt8).length<=40 * (404170+2)+20:=by
  split
  ·simp
  ·simp[d5n,wBy];omega
 have t11:(if 0<=q.limit then[32]++d6p++[32]++dQ q.limit else[]:List UInt8).length<=50:=by
  split
  ·simp[d6p];omega
  ·simp
 have t12:(if q.distinct then d2s++[32] else[]:List UInt8).length<=20:=(by split<;>simp[d2s]);unfold d8n;simp only[bD];have e1:d3h.length=6:=rfl;have e2:d5p.length=4:=rfl;have e3:([32]:List UInt8).length=1:=rfl;omega
end
end Go.Proofs.YtfkekkgfmhcanaaGreatDoor
