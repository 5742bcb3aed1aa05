/- Texts beside the shared ones. -/
import Derived.Test.YtfkekkgfmhcanaaGreatDoorTS
import Derived.Test.YtfkekkgfmhcanaaGreatDoorTA
import Derived.Test.YtfkekkgfmhcanaaGreatDoorTB
import Derived.Test.YtfkekkgfmhcanaaGreatDoorTC
import Derived.Test.YtfkekkgfmhcanaaGreatDoorTD
import Derived.Test.YtfkekkgfmhcanaaGreatDoorTE
import Derived.Test.YtfkekkgfmhcanaaGreatDoorTF
import Derived.Test.YtfkekkgfmhcanaaGreatDoorTG
import Derived.Test.YtfkekkgfmhcanaaGreatDoorTH
import Derived.Test.YtfkekkgfmhcanaaGreatDoorTI
import Derived.Test.YtfkekkgfmhcanaaGreatDoorTJ
import Derived.Test.YtfkekkgfmhcanaaGreatDoorWOS
import Derived.WideShapes
namespace Go.Proofs.YtfkekkgfmhcanaaGreatDoor
open Go.ChangeShapes Go.WideShapes Go.ChangeAt Go.RowKit Go.Deep
open _root_.List renaming drop_succ_cons->gB,drop_zero->oC,getElem?_eq_getElem->aP,getElem?_eq_some_iff->aO,getElem?_map->iJ,range->iU
open _root_.Option renaming bind_eq_some_iff->dG,map_eq_some_iff->aT
set_option maxRecDepth 100000
section
theorem c3x:Tryz.prog.cellsOf 27=1:=by kernel_rfl
theorem c2e:Tryz.prog.cellsOf 2=1:=by kernel_rfl
theorem b0t:Tryz.prog.cellsOf 9=1:=by kernel_rfl
theorem b7k:Tryz.prog.cellsOf 26=1:=by kernel_rfl
theorem c6v:Tryz.prog.cellsOf 30=1:=by kernel_rfl
theorem b3q:Tryz.prog.cellsOf 29=3:=by kernel_rfl
theorem b3t:Tryz.prog.cellsOf 31=1:=by kernel_rfl
theorem b7l:Tryz.prog.cellsOf 33=8:=by kernel_rfl
inductive c4f:Ex->Prop where
 |mk (k:Int) (v:Int×Int×List UInt8) (t n:List UInt8) (o:Int) (args:List Ex) (h:I64 v.1) (ha:∀y,y∈args->c4f y):c4f (.mk k v t n o args)
instance:Inhabited Ex:=⟨zeroE⟩
section
variable {H:Type} {enc:TypeId×Value->H} {W:World} {base:Nat} {spare:Nat->Bool} {held:Bool}
theorem c8r{n:Int}(h:(Lit.int .i64 n).wf=true):I64 n:=by
 exact bounds_i64 h
theorem a4u{n:Nat}{cs:List Value}{y:DataW H×List MemPlace}(h:DataW.trod enc Tryz.prog W base spare held n 9 cs=some y):∃l:List UInt8,cs=[S l]/\l.length<=maxLen:=by
 obtain⟨s,e,_,hs⟩:=DataW.trod_string Tryz.underlying9 h;obtain⟨⟨s⟩⟩:=s;exact⟨s,e,by simpa[ByteArray.size] using hs⟩
theorem b8r{n:Nat}{cs:List Value}{y:DataW H×List MemPlace}(h:DataW.trod enc Tryz.prog W base spare held n 29 cs=some y):∃v:Int×Int×List UInt8,cs=[.int .i64 v.1,.int .i64 v.2.1,S v.2.2]/\I64 v.1/\I64 v.2.1/\v.2.2.length<=maxLen:=by
 obtain⟨ys,m,_,_,hlen,hyl,hf⟩:=DataW.trod_struct Tryz.underlying29 h;rw[b3q] at hlen
 match cs,hlen with
 |[a,b,c],_=>
  have h0:DataW.trod enc Tryz.prog W base spare held m 27 (([a,b,c].drop 0).take (Tryz.prog.cellsOf 27))=ys[0]?:=hf 0 _ rfl;have h1:DataW.trod enc Tryz.prog W base spare held m 2 (([a,b,c].drop 1).take (Tryz.prog.cellsOf 2))=ys[1]?:=hf 1 _ rfl;have h2:DataW.trod enc Tryz.prog W base spare held m 9 (([a,b,c].drop 2).take (Tryz.prog.cellsOf 9))=ys[2]?:=hf 2 _ rfl;have hs:ys.length=3:=hyl;simp only[c3x,c2e,b0t,oC,gB,List.take_succ_cons,List.take_zero] at h0 h1 h2;rw[aP (by omega)] at h0 h1 h2;obtain⟨i0,e0,_,w0⟩:=DataW.trod_int Tryz.underlying27 h0;obtain⟨i1,e1,_,w1⟩:=DataW.trod_int Tryz.underlying2 h1;obtain⟨l,e2,hl⟩:=a4u h2;simp only[List.cons.injEq,and_true] at e0 e1 e2;subst e0 e1 e2;exact⟨(i0,i1,l),rfl,c8r w0,c8r w1,hl⟩
theorem c4u:∀(n:Nat) (cs:List Value) (y:DataW H×List MemPlace),DataW.trod enc Tryz.prog W base spare held n 33 cs=some y->∃x sv,cs=qD x sv/\gU W sv x.args/\Fits x/\c4f x:=by
 intro n
 induction n using Nat.strongRecOn with
 |ind n ih=>
  intro cs y h;obtain⟨ys,m,rfl,_,hlen,hyl,hf⟩:=DataW.trod_struct Tryz.underlying33 h;rw[b7l] at hlen
  match cs,hlen with
  |[a0,a1,a2,a3,a4,a5,a6,a7],_=>
   have h0:DataW.trod enc Tryz.prog W base spare held m 26 (([a0,a1,a2,a3,a4,a5,a6,a7].drop 0).take (Tryz.prog.cellsOf 26))=ys[0]?:=hf 0 _ rfl;have h1:DataW.trod enc Tryz.prog W base spare held m 29 (([a0,a1,a2,a3,a4,a5,a6,a7].drop 1).take (Tryz.prog.cellsOf 29))=ys[1]?:=hf 1 _ rfl;have h2:DataW.trod enc Tryz.prog W base spare held m 9 (([a0,a1,a2,a3,a4,a5,a6,a7].drop 4).take (Tryz.prog.cellsOf 9))=ys[2]?:=hf 2 _ rfl;have h3:DataW.trod enc Tryz.prog W base spare held m 9 (([a0,a1,a2,a3,a4,a5,a6,a7].drop 5).take (Tryz.prog.cellsOf 9))=ys[3]?:=hf 3 _ rfl;have h4:DataW.trod enc Tryz.prog W base spare held m 30 (([a0,a1,a2,a3,a4,a5,a6,a7].drop 6).take (Tryz.prog.cellsOf 30))=ys[4]?:=hf 4 _ rfl;have h5:DataW.trod enc Tryz.prog W base spare held m 31 (([a0,a1,a2,a3,a4,a5,a6,a7].drop 7).take (Tryz.prog.cellsOf 31))=ys[5]?:=hf 5 _ rfl;have hs:ys.length=6:=hyl;simp only[b7k,b3q,b0t,c6v,b3t,oC,gB,List.take_succ_cons,List.take_zero] at h0 h1 h2 h3 h4 h5;rw[aP (by omega)] at h0 h1 h2 h3 h4 h5;obtain⟨k,e0,_,_⟩:=DataW.trod_int Tryz.underlying26 h0;obtain⟨v,e1,hi0,hi,_⟩:=b8r h1;obtain⟨t,e2,_⟩:=a4u h2;obtain⟨nm,e3,_⟩:=a4u h3;obtain⟨o,e4,_,_⟩:=DataW.trod_int Tryz.underlying30 h4;simp only[List.cons.injEq,and_true] at e0 e1 e2 e3 e4;obtain⟨rfl,rfl,rfl⟩:=e1;subst e0 e2 e3 e4
   suffices hl:∃l,gU W a7 l/\(∀y∈l,Fits y)/\∀y∈l,c4f y by
    obtain⟨l,hl,hfl,hkl⟩:=hl;exact⟨.mk k v t nm o l,a7,rfl,hl,.mk k v t nm o l hi hfl,.mk k v t nm o l hi0 hkl⟩
   clear hf h0 h1 h2 h3 h4;rcases DataW.trod_slice Tryz.underlying31 h5 with⟨e,_⟩|⟨a,len,cap,elems,rest,m',rfl,e,_,hb,hlc,_,hel,hat,_,_⟩
   ·simp only[List.cons.injEq,and_true] at e;subst e;exact⟨[],gU.nil W none 0,(fun y hy=>by cases hy),(fun y hy=>by cases hy)⟩
   ·simp only[List.cons.injEq,and_true] at e;subst e;obtain⟨F,hF⟩:=choose_lt (α:=Ex×Value) (n:=len) (p:=fun i x=>(∀j,j<8->W.cell? ((a.add (i * 8)).add j)=(qD x.1 x.2)[j]?)/\gU W x.2 x.1.args/\Fits x.1/\c4f x.1) (fun i hi=>by
     have hi':=hat i hi;rw[aP (by omega),b7l] at hi';obtain⟨cs',hc,ht⟩:=dG.1 hi';obtain⟨x,sv,rfl,hr,hx⟩:=ih m' (by omega) cs' _ ht;obtain⟨_,_,hg⟩:=World.cells?_some hc;exact⟨(x,sv),hg,hr,hx⟩)
    have hm:len=((iU len).map fun i=>(F i).1).length:=(by simp);refine⟨(iU len).map fun i=>(F i).1,?_,fun y hy=>?_,fun y hy=>?_⟩
    ·conv=>arg 2;rw[hm]
     refine .mk (some a) cap _ (fun i=>(F i).2) (fun j x hx=>?_) (fun j x hx=>?_)
     ·rw[iJ] at hx;obtain⟨i,hi,rfl⟩:=aT.1 hx;have hj:j<len:=(by have:=(aO.1 hi).1;simpa using this);have hij:i=j:=by
       rw[List.getElem?_range hj] at hi;exact(Option.some.inj hi).symm
      subst hij;have h00:=(hF 0 (by omega)).1 0 (by omega);rw[show(a.add (0 * 8)).add 0=a from rfl] at h00;have ea:=cell_spot (v:= .int .i64 (F 0).1.k) h00;refine⟨a.block,a.off,by rw[<-ea],yI fun q hq=>?_⟩;have hc:=(hF i hj).1 q hq;rw[ea,c0s,c0s] at hc;exact hc
     ·rw[iJ] at hx;obtain⟨i,hi,rfl⟩:=aT.1 hx;have hj:j<len:=(by have:=(aO.1 hi).1;simpa using this);have hij:i=j:=by
       rw[List.getElem?_range hj] at hi;exact(Option.some.inj hi).symm
      subst hij;exact(hF i hj).2.1
    ·obtain⟨i,hi,rfl⟩:=List.mem_map.1 hy;exact(hF i (by simpa using hi)).2.2.1
    ·obtain⟨i,hi,rfl⟩:=List.mem_map.1 hy;exact(hF i (by simpa using hi)).2.2.2
end
end
end Go.Proofs.YtfkekkgfmhcanaaGreatDoor
