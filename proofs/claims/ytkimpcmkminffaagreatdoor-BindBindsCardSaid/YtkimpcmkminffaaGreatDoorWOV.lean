/- Texts beside the shared ones. -/
import Derived.Test.YtkimpcmkminffaaGreatDoorWX0
import Derived.Test.YtkimpcmkminffaaGreatDoorWOB
namespace Go.Proofs.YtkimpcmkminffaaGreatDoor
open Go.ChangeShapes Go.WideShapes Go.ChangeAt Go.RowKit Go.Deep
open _root_.List renaming getElem?_eq_getElem->aP,getElem?_eq_some_iff->aO,getElem?_map->iJ,range->iU
open _root_.Option renaming bind_eq_some_iff->dG,map_eq_some_iff->aT
open _root_.Go.World renaming block_lt_of_cell?->bB
set_option maxRecDepth 100000
section
instance:Inhabited Vl:=⟨zVl⟩
theorem cellsT_sliceValue:Tryz.prog.cellsOf 36=1:=by kernel_rfl
theorem cells3_at{W:World}{b o:Nat}{x:Vl}(h:∀j,j<3->W.cell? ⟨b,o+j,none⟩=(cells3 x)[j]?):d2k W b o (cells3 x):=fun i v hi=>by
 have hl:i<3:=(by have:=(aO.1 hi).1;simpa[cells3] using this);rw[h i hl];exact hi
section
variable {H:Type} {enc:TypeId×Value->H} {W:World} {base:Nat} {spare:Nat->Bool} {held:Bool}
theorem vals_of_trod{n:Nat}{cs:List Value}{y:DataW H×List MemPlace}(h:DataW.trod enc Tryz.prog W base spare held n 36 cs=some y):∃(l:List Vl) (sv:Value),cs=[sv]/\ReadsVl (fun _=>True) W sv l/\(∀v∈l,Int2 v)/\l.length<=maxLen:=by
 rcases DataW.trod_slice Tryz.underlying36 h with⟨e,_⟩|⟨a,len,cap,elems,rest,m',rfl,e,_,hb,hlc,hcm,hel,hat,_,_⟩
 ·exact⟨[],_,e,⟨none,0,rfl,fun j v h=>by simp at h⟩,(fun v hv=>by cases hv),by simp⟩
 ·obtain⟨F,hF⟩:=choose_lt (α:=Vl) (n:=len) (p:=fun i x=>(∀j,j<3->W.cell? ((a.add (i * 3)).add j)=(cells3 x)[j]?)/\Int2 x) (fun i hi=>by
   have hi':=hat i hi;rw[aP (by omega),b3q] at hi';obtain⟨cs',hc,ht⟩:=dG.1 hi';obtain⟨x,rfl,h0,h1,_⟩:=b8r ht;obtain⟨_,_,hg⟩:=World.cells?_some hc;exact⟨x,hg,h0,h1⟩)
  have hm:len=((iU len).map F).length:=(by simp);refine⟨(iU len).map F,_,e,?_,fun v hv=>?_,by rw[<-hm];omega⟩
  ·refine⟨some a,cap,by rw[<-hm],fun j v hj=>?_⟩;rw[iJ] at hj;obtain⟨i,hi,rfl⟩:=aT.1 hj;have hjl:j<len:=(by have:=(aO.1 hi).1;simpa using this);have hij:i=j:=by
    rw[List.getElem?_range hjl] at hi;exact(Option.some.inj hi).symm
   subst hij;have h00:=(hF 0 (by omega)).1 0 (by omega);rw[show(a.add (0 * 3)).add 0=a from rfl] at h00;have ea:=cell_spot (v:= .int .i64 (F 0).1) h00;refine⟨a.block,a.off,by rw[<-ea],trivial,by have:=bB _ _ h00;simpa using this,cells3_at fun q hq=>?_⟩;have hc:=(hF i hjl).1 q hq;rw[ea,c0s,c0s] at hc;exact hc
  ·obtain⟨i,hi,rfl⟩:=List.mem_map.1 hv;exact(hF i (by simpa using hi)).2
theorem values_of_trod{v:Value}{d:DataW H}{ps:List MemPlace}{b0:Nat}(hv:Value.okWide Tryz.prog W .any b0 36 v)(h:DataW.Trod enc Tryz.prog W base spare held 36 v d ps):∃(l:List Vl) (ra:Option Addr) (rc:Nat),v= .slice ra l.length rc/\ReadsVl (fun _=>True) W (.slice ra l.length rc) l/\∀v∈l,Int2 v:=by
 obtain⟨a,len,cap,rfl⟩:=okWide_slice Tryz.underlying36 hv;obtain⟨fuel,hf⟩:=h;obtain⟨l,sv,e,hr,hi,_⟩:=vals_of_trod hf;have e':[Value.slice a len cap]=[sv]:=e;injection e' with e';subst e';obtain⟨ra,rc,e2,h2⟩:=hr;injection e2 with e3 e4 e5;subst e3 e4 e5;exact⟨l,_,_,rfl,⟨_,_,rfl,h2⟩,hi⟩
end
end
end Go.Proofs.YtkimpcmkminffaaGreatDoor
