/- Texts beside the shared ones. -/
import Derived.Test.YtkimpcmkminffaaGreatDoorHX0
namespace Go.Proofs.YtkimpcmkminffaaGreatDoor
open Go.ChangeShapes Go.WideShapes Go.ChangeAt Go.RowKit Go.Deep
open _root_.List renaming drop_succ_cons->gB,drop_zero->oC,getElem?_eq_getElem->aP,getElem?_eq_some_iff->aO,getElem?_map->iJ,range->iU
open _root_.Nat renaming le_refl->aH,zero_le->dL
open _root_.Option renaming bind_eq_some_iff->dG,map_eq_some_iff->aT
open _root_.Go.World renaming block_lt_of_cell?->bB
set_option maxRecDepth 100000
section
instance:Inhabited Fd:=⟨⟨[],[],0⟩⟩
theorem cellsT_Field:Tryz.prog.cellsOf 62=3:=by kernel_rfl
theorem cellsF_at{W:World}{b o:Nat}{x:Fd}(h:∀j,j<3->W.cell? ⟨b,o+j,none⟩=(cellsF x)[j]?):d2k W b o (cellsF x):=fun i v hi=>by
 have hl:i<3:=(by have:=(aO.1 hi).1;simpa[cellsF] using this);rw[h i hl];exact hi
section
variable {H:Type} {enc:TypeId×Value->H} {W:World} {base:Nat} {spare:Nat->Bool} {held:Bool}
theorem field_of_trod{n:Nat}{cs:List Value}{y:DataW H×List MemPlace}(h:DataW.trod enc Tryz.prog W base spare held n 62 cs=some y):∃f:Fd,cs=cellsF f:=by
 obtain⟨ys,m,_,_,hlen,hyl,hf⟩:=DataW.trod_struct Tryz.underlying62 h;rw[cellsT_Field] at hlen
 match cs,hlen with
 |[a,b,c],_=>
  have h0:DataW.trod enc Tryz.prog W base spare held m 9 (([a,b,c].drop 0).take (Tryz.prog.cellsOf 9))=ys[0]?:=hf 0 _ rfl;have h1:DataW.trod enc Tryz.prog W base spare held m 9 (([a,b,c].drop 1).take (Tryz.prog.cellsOf 9))=ys[1]?:=hf 1 _ rfl;have h2:DataW.trod enc Tryz.prog W base spare held m 23 (([a,b,c].drop 2).take (Tryz.prog.cellsOf 23))=ys[2]?:=hf 2 _ rfl;have hs:ys.length=3:=hyl;simp only[b0t,cellsT_Type,oC,gB,List.take_succ_cons,List.take_zero] at h0 h1 h2;rw[aP (by omega)] at h0 h1 h2;obtain⟨l0,e0,_⟩:=a4u h0;obtain⟨l1,e1,_⟩:=a4u h1;obtain⟨i2,e2,_,_⟩:=DataW.trod_int Tryz.underlying23 h2;simp only[List.cons.injEq,and_true] at e0 e1 e2;subst e0 e1 e2;exact⟨⟨l0,l1,i2⟩,rfl⟩
theorem fields_of_trod{v:Value}{d:DataW H}{ps:List MemPlace}{b0:Nat}(hv:Value.okWide Tryz.prog W .any b0 43 v)(h:DataW.Trod enc Tryz.prog W base spare held 43 v d ps):
  ∃(l:List Fd) (ra:Option Addr) (rc:Nat),v= .slice ra l.length rc/\l.length<=rc/\rc<=maxLen/\ReadsFd (fun _=>True) W (.slice ra l.length rc) l:=by
 obtain⟨a0,len0,cap0,rfl⟩:=okWide_slice Tryz.underlying43 hv;obtain⟨fuel,hf⟩:=h;have h':DataW.trod enc Tryz.prog W base spare held fuel 43 [.slice a0 len0 cap0]=some (d,ps):=hf;rcases DataW.trod_slice Tryz.underlying43 h' with⟨e,_⟩|⟨a,len,cap,elems,rest,m',rfl,e,_,hb,hlc,hcm,hel,hat,_,_⟩
 ·simp only[List.cons.injEq,and_true] at e;rw[e];exact⟨[],none,0,rfl,aH _,dL _,none,0,rfl,fun j v h=>by simp at h⟩
 ·simp only[List.cons.injEq,and_true] at e;rw[e];obtain⟨F,hF⟩:=choose_lt (α:=Fd) (n:=len) (p:=fun i x=>∀j,j<3->W.cell? ((a.add (i * 3)).add j)=(cellsF x)[j]?) (fun i hi=>by
   have hi':=hat i hi;rw[aP (by omega),cellsT_Field] at hi';obtain⟨cs',hc,ht⟩:=dG.1 hi';obtain⟨x,rfl⟩:=field_of_trod ht;obtain⟨_,_,hg⟩:=World.cells?_some hc;exact⟨x,hg⟩)
  have hm:len=((iU len).map F).length:=(by simp);refine⟨(iU len).map F,some a,cap,by rw[<-hm],by rw[<-hm];exact hlc,hcm,some a,cap,rfl,fun j v hj=>?_⟩;rw[iJ] at hj;obtain⟨i,hi,rfl⟩:=aT.1 hj;have hjl:j<len:=(by have:=(aO.1 hi).1;simpa using this);have hij:i=j:=by
   rw[List.getElem?_range hjl] at hi;exact(Option.some.inj hi).symm
  subst hij;have h00:=hF 0 (by omega) 0 (by omega);rw[show(a.add (0 * 3)).add 0=a from rfl] at h00;have ea:=cell_spot (v:=S (F 0).tb) h00;refine⟨a.block,a.off,by rw[<-ea],trivial,by have:=bB _ _ h00;simpa using this,cellsF_at fun q hq=>?_⟩;have hc:=hF i hjl q hq;rw[ea,c0s,c0s] at hc;exact hc
end
end
end Go.Proofs.YtkimpcmkminffaaGreatDoor
