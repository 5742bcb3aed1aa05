/- Texts beside the shared ones. -/
import Derived.Test.YtkimpcmkminffaaGreatDoorWX0
import Derived.Test.YtkimpcmkminffaaGreatDoorWOV
namespace Go.Proofs.YtkimpcmkminffaaGreatDoor
open Go.ChangeShapes Go.WideShapes Go.ChangeAt Go.RowKit Go.Deep
open _root_.Go.Addr renaming add->dY
open _root_.List renaming getElem?_eq_getElem->aP,getElem?_eq_some_iff->aO,getElem?_map->iJ,range->iU
open _root_.Nat renaming le_refl->aH
open _root_.Option renaming bind_eq_some_iff->dG,map_eq_some_iff->aT
open _root_.Go.World renaming block_lt_of_cell?->bB
set_option maxRecDepth 100000
section
section
variable {H:Type} {enc:TypeId×Value->H} {W:World} {base:Nat} {spare:Nat->Bool} {held:Bool}
theorem rows_of_trod{v:Value}{d:DataW H}{ps:List MemPlace}{b0:Nat}(hv:Value.okWide Tryz.prog W .any b0 31 v)(h:DataW.Trod enc Tryz.prog W base spare held 31 v d ps):
  ∃(l:List (List Vl)) (ra:Option Addr) (rc:Nat),v= .slice ra l.length rc/\l.length<=rc/\rc<=maxLen/\ReadsRw (fun _=>True) W (.slice ra l.length rc) l/\∀r∈l,∀v∈r,Int2 v:=by
 obtain⟨a0,len0,cap0,rfl⟩:=okWide_slice Tryz.underlying31 hv;obtain⟨fuel,hf⟩:=h;rcases DataW.trod_slice Tryz.underlying31 hf with⟨e,_⟩|⟨a,len,cap,elems,rest,m',_,e,_,hb,hlc,hcm,hel,hat,_,_⟩
 ·have e':[Value.slice a0 len0 cap0]=[.slice none 0 0]:=e;injection e' with e';rw[e'];exact⟨[],none,0,rfl,aH _,by unfold maxLen;omega,⟨none,0,rfl,fun j v h=>by simp at h⟩,fun r hr=>by cases hr⟩
 ·have e':[Value.slice a0 len0 cap0]=[.slice (some a) len cap]:=e;injection e' with e';rw[e'];obtain⟨F,hF⟩:=choose_lt (α:=List Vl×Value) (n:=len) (p:=fun i x=>W.cell? (a.add (i * 1))=some x.2/\ReadsVl (fun _=>True) W x.2 x.1/\∀v∈x.1,Int2 v) (fun i hi=>by
   have hi':=hat i hi;rw[aP (by omega),cellsT_sliceValue] at hi';obtain⟨cs',hc,ht⟩:=dG.1 hi';obtain⟨l,sv,rfl,hr,hx,_⟩:=vals_of_trod ht;obtain⟨_,_,hg⟩:=World.cells?_some hc;have h0:=hg 0 (by omega);have e0:(a.add (i * 1)).add 0=a.add (i * 1):=(by simp[dY]);rw[e0] at h0;exact⟨(l,sv),h0,hr,hx⟩)
  have hm:len=((iU len).map fun i=>(F i).1).length:=(by simp);refine⟨(iU len).map fun i=>(F i).1,some a,cap,by rw[<-hm],by rw[<-hm];exact hlc,hcm,?_,fun r hr v hv=>?_⟩
  ·refine⟨some a,cap,rfl,fun j r hj=>?_⟩;rw[iJ] at hj;obtain⟨i,hi,rfl⟩:=aT.1 hj;have hjl:j<len:=(by have:=(aO.1 hi).1;simpa using this);have hij:i=j:=by
    rw[List.getElem?_range hjl] at hi;exact(Option.some.inj hi).symm
   subst hij;have h00:=(hF 0 (by omega)).1;rw[show a.add (0 * 1)=a from rfl] at h00;have ea:=cell_spot h00;refine⟨a.block,a.off,(F i).2,by rw[<-ea],trivial,by have:=bB _ _ h00;simpa using this,?_,(hF i hjl).2.1⟩;have hc:=(hF i hjl).1;rw[ea,c0s,Nat.mul_one] at hc;exact hc
  ·obtain⟨i,hi,rfl⟩:=List.mem_map.1 hr;exact(hF i (by simpa using hi)).2.2 v hv
end
end
end Go.Proofs.YtkimpcmkminffaaGreatDoor
