/- Texts beside the shared ones. -/
import Derived.Test.YtkimpcmkminffaaGreatDoorWX0
import Derived.Test.YtkimpcmkminffaaGreatDoorWFT
import Derived.Test.YtkimpcmkminffaaGreatDoorWM7
import Derived.Test.YtkimpcmkminffaaGreatDoorWGS
import Derived.Test.YtkimpcmkminffaaGreatDoorWOW
namespace Go.Proofs.YtkimpcmkminffaaGreatDoor
open Go.ChangeShapes Go.WideShapes Go.ChangeAt Go.RowKit Go.Deep
open _root_.Array renaming getElem?_eq_some_iff->aC
open _root_.Go.Lib renaming cell_of_heap->aG
open _root_.List renaming getElem?_eq_getElem->aP,getElem?_eq_some_iff->aO,range->iU
open _root_.Nat renaming zero_add->gD
set_option maxRecDepth 100000
section
theorem rows_own20{W:World}{ra:Option Addr}{rc:Nat}{rows:List (List Vl)}(hr:ReadsRw (fun _=>True) W (.slice ra rows.length rc) rows)(h0:0<rows.length):
  ∃(sl:List Value) (b off:Nat),ra=some ⟨b,off,none⟩/\sl.length=rows.length/\(∀j u,sl[j]?=some u->W.cell? ((⟨b,off,none⟩:Addr).add j)=some u)/\(∀(j:Nat) (h:j<rows.length) (h':j<sl.length),ReadsVl (fun _=>True) W sl[j] rows[j])/\∀u∈sl,u.oneCell'=true:=by
 obtain⟨a,cap,e,hc⟩:=hr;obtain⟨rfl,rfl⟩:ra=a/\rc=cap:=(by simpa using e);obtain⟨b,off,s0,rfl,-⟩:=hc 0 _ (aP h0);obtain⟨F,hF⟩:=choose_lt (α:=Value) (n:=rows.length) (p:=fun i x=>W.cell? ⟨b,off+i,none⟩=some x/\∀h:i<rows.length,ReadsVl (fun _=>True) W x rows[i]) (fun i hi=>by
  obtain⟨b',off',s,e,-,-,hs,hv⟩:=hc i _ (aP hi);obtain⟨rfl,rfl⟩:b=b'/\off=off':=(by simpa using e);exact⟨s,hs,fun _=>hv⟩)
 refine⟨(iU rows.length).map F,b,off,rfl,by simp,fun j u hj=>?_,fun j h h'=>?_,fun u hu=>?_⟩
 ·have hl:j<rows.length:=by have:=(aO.1 hj).1;simpa using this
  have hu:F j=u:=by
   have:=(aO.1 hj).2;simpa using this
  rw[c0s,<-hu];exact(hF j hl).1
 ·simp only[List.getElem_map,List.getElem_range];exact(hF j h).2 h
 ·obtain⟨i,hi,rfl⟩:=List.mem_map.1 hu;have hi':i<rows.length:=(by simpa using hi);obtain⟨va,vc,e,-⟩:=(hF i hi').2 hi';rw[e];rfl
theorem rows_reads20{w:World}{g cap:Nat}{cl sl:List Value}{t:TypeId}{rows:List (List Vl)}(hg:w.heap[g]?=some (.cells cl.toArray t (0,0)))(hs:cl.take rows.length=sl)(hl:sl.length=rows.length)
  (hv:∀(j:Nat) (h:j<rows.length) (h':j<sl.length),ReadsVl (fun _=>True) w sl[j] rows[j]):ReadsRw (fun _=>True) w (.slice (some ⟨g,0,none⟩) rows.length cap) rows:=by
 refine⟨some ⟨g,0,none⟩,cap,rfl,fun j r hj=>?_⟩;obtain⟨hjl,er⟩:=aO.1 hj;have hjs:j<sl.length:=(by omega);refine⟨g,0,sl[j],rfl,trivial,(aC.1 hg).1,?_,er▸hv j hjl hjs⟩;rw[gD,aG hg];subst hs;simp only[List.getElem_take,List.getElem?_toArray];have:j<cl.length:=(by simp at hl;omega);exact aP this
theorem two_set20{w:World}{sl:List Value}{rows:List (List Vl)}(hv:∀(j:Nat) (h:j<rows.length) (h':j<sl.length),ReadsVl (fun _=>True) w sl[j] rows[j]){i j:Nat}(hi:i<rows.length)(hj:j<rows.length)(hi':i<sl.length)(hj':j<sl.length):
  ∀(k:Nat) (h:k<((rows.set i rows[j]).set j rows[i]).length) (h':k<((sl.set i sl[j]).set j sl[i]).length),ReadsVl (fun _=>True) w ((sl.set i sl[j]).set j sl[i])[k] ((rows.set i rows[j]).set j rows[i])[k]:=by
 intro k h h';simp only[List.getElem_set];by_cases e1:j=k
 ·simp only[if_pos e1];exact hv _ _ _
 ·simp only[if_neg e1];by_cases e2:i=k
  ·simp only[if_pos e2];exact hv _ _ _
  ·simp only[if_neg e2];exact hv _ _ _
theorem put_set20{l:List Value}{i:Nat}{x:Value}(hi:i<l.length):l.take i++[x]++l.drop (i+[x].length)=l.set i x:=by
 rw[List.set_eq_take_append_cons_drop,if_pos hi];simp
end
end Go.Proofs.YtkimpcmkminffaaGreatDoor
