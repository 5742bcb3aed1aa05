/- Texts beside the shared ones. -/
import Derived.Test.YtkimpcmkminffaaGreatDoorWX0
import Derived.Test.YtkimpcmkminffaaGreatDoorWFC
namespace Go.Proofs.YtkimpcmkminffaaGreatDoor
open Go.ChangeShapes Go.WideShapes Go.ChangeAt Go.RowKit Go.Deep
open _root_.List renaming drop_succ_cons->gB,drop_zero->oC,getElem?_eq_getElem->aP,getElem?_eq_some_iff->aO,getElem?_map->iJ,range->iU
open _root_.Option renaming bind_eq_some_iff->dG,map_eq_some_iff->aT
open _root_.Go.World renaming block_lt_of_cell?->bB
set_option maxRecDepth 100000
section
theorem cellsT_BoundKind:Tryz.prog.cellsOf 22=1:=by kernel_rfl
theorem cellsT_Type:Tryz.prog.cellsOf 23=1:=by kernel_rfl
theorem cellsT_int:Tryz.prog.cellsOf 3=1:=by kernel_rfl
theorem cellsT_sliceBound:Tryz.prog.cellsOf 28=1:=by kernel_rfl
theorem cellsT_Bound:Tryz.prog.cellsOf 30=9:=by kernel_rfl
theorem cells9_at{W:World}{b o:Nat}{x:Bd}{s:Value}(h:∀j,j<9->W.cell? ⟨b,o+j,none⟩=(cells9 x s)[j]?):d2k W b o (cells9 x s):=fun i v hi=>by
 have hl:i<9:=(by have:=(aO.1 hi).1;simpa[cells9] using this);rw[h i hl];exact hi
theorem i64sD_all:∀{l:List Bd},(∀y∈l,i64D y)->i64sD l
 |[],_=>trivial
 |x::r,h=>⟨h x (by simp),i64sD_all fun y hy=>h y (List.mem_cons_of_mem _ hy)⟩
section
variable {H:Type} {enc:TypeId×Value->H} {W:World} {base:Nat} {spare:Nat->Bool} {held:Bool}
theorem bd_of_trod(hW:∀a v,W.cell? a=some v->a.block<W.heap.size):∀(n:Nat) (cs:List Value) (y:DataW H×List MemPlace),DataW.trod enc Tryz.prog W base spare held n 30 cs=some y->∃x sv,cs=cells9 x sv/\ReadsDL (fun _=>True) W sv x.args/\i64D x:=by
 intro n
 induction n using Nat.strongRecOn with
 |ind n ih=>
  intro cs y h;obtain⟨ys,m,rfl,_,hlen,hyl,hf⟩:=DataW.trod_struct Tryz.underlying30 h;rw[cellsT_Bound] at hlen
  match cs,hlen with
  |[a0,a1,a2,a3,a4,a5,a6,a7,a8],_=>
   have h0:DataW.trod enc Tryz.prog W base spare held m 22 (([a0,a1,a2,a3,a4,a5,a6,a7,a8].drop 0).take (Tryz.prog.cellsOf 22))=ys[0]?:=hf 0 _ rfl;have h1:DataW.trod enc Tryz.prog W base spare held m 23 (([a0,a1,a2,a3,a4,a5,a6,a7,a8].drop 1).take (Tryz.prog.cellsOf 23))=ys[1]?:=hf 1 _ rfl;have h2:DataW.trod enc Tryz.prog W base spare held m 26 (([a0,a1,a2,a3,a4,a5,a6,a7,a8].drop 2).take (Tryz.prog.cellsOf 26))=ys[2]?:=hf 2 _ rfl;have h3:DataW.trod enc Tryz.prog W base spare held m 3 (([a0,a1,a2,a3,a4,a5,a6,a7,a8].drop 5).take (Tryz.prog.cellsOf 3))=ys[3]?:=hf 3 _ rfl;have h4:DataW.trod enc Tryz.prog W base spare held m 27 (([a0,a1,a2,a3,a4,a5,a6,a7,a8].drop 6).take (Tryz.prog.cellsOf 27))=ys[4]?:=hf 4 _ rfl;have h5:DataW.trod enc Tryz.prog W base spare held m 9 (([a0,a1,a2,a3,a4,a5,a6,a7,a8].drop 7).take (Tryz.prog.cellsOf 9))=ys[5]?:=hf 5 _ rfl;have h6:DataW.trod enc Tryz.prog W base spare held m 28 (([a0,a1,a2,a3,a4,a5,a6,a7,a8].drop 8).take (Tryz.prog.cellsOf 28))=ys[6]?:=hf 6 _ rfl;have hs:ys.length=7:=hyl;simp only[cellsT_BoundKind,cellsT_Type,b3q,cellsT_int,b0t,c6v,cellsT_sliceBound,oC,gB,List.take_succ_cons,List.take_zero] at h0 h1 h2 h3 h4 h5 h6;rw[aP (by omega)] at h0 h1 h2 h3 h4 h5 h6;obtain⟨k,e0,_,_⟩:=DataW.trod_int Tryz.underlying22 h0;obtain⟨t,e1,_,_⟩:=DataW.trod_int Tryz.underlying23 h1;obtain⟨v,e2,hi0,hi,_⟩:=b8r h2;obtain⟨p,e3,_,_⟩:=DataW.trod_int Tryz.underlying3 h3;obtain⟨o,e4,_,_⟩:=DataW.trod_int Tryz.underlying27 h4;obtain⟨nm,e5,_⟩:=a4u h5;simp only[List.cons.injEq,and_true] at e0 e1 e2 e3 e4 e5;obtain⟨rfl,rfl,rfl⟩:=e2;subst e0 e1 e3 e4 e5
   suffices hl:∃l,ReadsDL (fun _=>True) W a8 l/\∀y∈l,i64D y by
    obtain⟨l,hl,hfl⟩:=hl;exact⟨.mk k t v p o nm l,a8,rfl,hl,⟨hi0,hi⟩,i64sD_all hfl⟩
   clear hf h0 h1 h2 h3 h4 h5;rcases DataW.trod_slice Tryz.underlying28 h6 with⟨e,_⟩|⟨a,len,cap,elems,rest,m',rfl,e,_,hb,hlc,_,hel,hat,_,_⟩
   ·simp only[List.cons.injEq,and_true] at e;subst e;exact⟨[],ReadsDL.nil _ W none 0,(fun y hy=>by cases hy)⟩
   ·simp only[List.cons.injEq,and_true] at e;subst e;obtain⟨F,hF⟩:=choose_lt (α:=Bd×Value) (n:=len) (p:=fun i x=>(∀j,j<9->W.cell? ((a.add (i * 9)).add j)=(cells9 x.1 x.2)[j]?)/\ReadsDL (fun _=>True) W x.2 x.1.args/\i64D x.1) (fun i hi=>by
     have hi':=hat i hi;rw[aP (by omega),cellsT_Bound] at hi';obtain⟨cs',hc,ht⟩:=dG.1 hi';obtain⟨x,sv,rfl,hr,hx⟩:=ih m' (by omega) cs' _ ht;obtain⟨_,_,hg⟩:=World.cells?_some hc;exact⟨(x,sv),hg,hr,hx⟩)
    have hm:len=((iU len).map fun i=>(F i).1).length:=(by simp);refine⟨(iU len).map fun i=>(F i).1,?_,fun y hy=>?_⟩
    ·conv=>arg 3;rw[hm]
     refine .mk (some a) cap _ (fun i=>(F i).2) (fun j x hx=>?_) (fun j x hx=>?_)
     ·rw[iJ] at hx;obtain⟨i,hi,rfl⟩:=aT.1 hx;have hj:j<len:=(by have:=(aO.1 hi).1;simpa using this);have hij:i=j:=by
       rw[List.getElem?_range hj] at hi;exact(Option.some.inj hi).symm
      subst hij;have h00:=(hF 0 (by omega)).1 0 (by omega);rw[show(a.add (0 * 9)).add 0=a from rfl] at h00;have ea:=cell_spot (v:= .int .i64 (F 0).1.k) h00;refine⟨a.block,a.off,by rw[<-ea],trivial,hW _ _ h00,cells9_at fun q hq=>?_⟩;have hc:=(hF i hj).1 q hq;rw[ea,c0s,c0s] at hc;exact hc
     ·rw[iJ] at hx;obtain⟨i,hi,rfl⟩:=aT.1 hx;have hj:j<len:=(by have:=(aO.1 hi).1;simpa using this);have hij:i=j:=by
       rw[List.getElem?_range hj] at hi;exact(Option.some.inj hi).symm
      subst hij;exact(hF i hj).2.1
    ·obtain⟨i,hi,rfl⟩:=List.mem_map.1 hy;exact(hF i (by simpa using hi)).2.2
theorem bound_of_trod{b0:Nat}{v:Value}{d:DataW H}{ps:List MemPlace}(hv:Value.okWide Tryz.prog W .any b0 30 v)(h:DataW.Trod enc Tryz.prog W base spare held 30 v d ps):∃x,ReadsD W x v/\i64D x:=by
 obtain⟨cs,rfl,hsz⟩:=okWide_struct Tryz.underlying30 hv;obtain⟨fuel,hf⟩:=h;obtain⟨x,sv,e,hr,hx⟩:=bd_of_trod (fun a v h=>by have:=bB _ _ h;simpa using this) fuel _ _ hf;refine⟨x,⟨sv,?_,hr⟩,hx⟩;have e':cs.toList=cells9 x sv:=e;rw[show cs=(cells9 x sv).toArray by rw[<-e']];rfl
end
end
end Go.Proofs.YtkimpcmkminffaaGreatDoor
