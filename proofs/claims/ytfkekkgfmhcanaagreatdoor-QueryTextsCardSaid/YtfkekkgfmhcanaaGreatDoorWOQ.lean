/- Texts beside the shared ones. -/
import Derived.Test.YtfkekkgfmhcanaaGreatDoorTS
import Derived.Test.YtfkekkgfmhcanaaGreatDoorTA
import Derived.Test.YtfkekkgfmhcanaaGreatDoorTB
import Derived.Test.YtfkekkgfmhcanaaGreatDoorTC
import Derived.Test.YtfkekkgfmhcanaaGreatDoorTD
import Derived.Test.YtfkekkgfmhcanaaGreatDoorTE
import Derived.Test.YtfkekkgfmhcanaaGreatDoorTF
import Derived.Test.YtfkekkgfmhcanaaGreatDoorTG
import Derived.Test.YtfkekkgfmhcanaaGreatDoorTH
import Derived.Test.YtfkekkgfmhcanaaGreatDoorTI
import Derived.Test.YtfkekkgfmhcanaaGreatDoorTJ
import Derived.Test.YtfkekkgfmhcanaaGreatDoorWOX
namespace Go.Proofs.YtfkekkgfmhcanaaGreatDoor
open Go.ChangeShapes Go.WideShapes Go.ChangeAt Go.RowKit Go.Deep
open _root_.List renaming drop_succ_cons->gB,drop_zero->oC,getElem?_eq_getElem->aP,getElem?_eq_some_iff->aO,getElem?_map->iJ,range->iU
open _root_.Option renaming bind_eq_some_iff->dG,map_eq_some_iff->aT
set_option maxRecDepth 100000
section
theorem cellsT_bool:Tryz.prog.cellsOf 4=1:=by kernel_rfl
theorem cellsT_Item:Tryz.prog.cellsOf 91=11:=by kernel_rfl
theorem cellsT_Source:Tryz.prog.cellsOf 24=2:=by kernel_rfl
theorem cellsT_Join:Tryz.prog.cellsOf 78=10:=by kernel_rfl
theorem cellsT_Order:Tryz.prog.cellsOf 80=9:=by kernel_rfl
theorem cellsT_Query:Tryz.prog.cellsOf 36=24:=by kernel_rfl
theorem cellsT_sliceItem:Tryz.prog.cellsOf 22=1:=by kernel_rfl
theorem cellsT_sliceJoin:Tryz.prog.cellsOf 25=1:=by kernel_rfl
theorem cellsT_sliceOrder:Tryz.prog.cellsOf 34=1:=by kernel_rfl
instance:Inhabited It:=⟨⟨false,[],zeroE,[]⟩⟩
instance:Inhabited Jo:=⟨⟨⟨[],[]⟩,zeroE⟩⟩
instance:Inhabited Od:=⟨⟨zeroE,false⟩⟩
abbrev GoodE(x:Ex):Prop:=Fits x/\c4f x
section
variable {H:Type} {enc:TypeId×Value->H} {W:World} {base:Nat} {spare:Nat->Bool} {held:Bool}
theorem rows_of_trod{α:Type}[Inhabited α]{F:Form α}{G:α->Prop}{T e:TypeId}(ht:Tryz.prog.underlying T=some (.slice e))(hc:Tryz.prog.cellsOf e=F.n)(h0:0<F.n)
  (hel:∀(m:Nat) (cs:List Value) (y:DataW H×List MemPlace),DataW.trod enc Tryz.prog W base spare held m e cs=some y->∃x s,cs=F.cells x s/\gU W s (F.ex x).args/\G x)
  {n:Nat} {v:Value} {y:DataW H×List MemPlace} (h:DataW.trod enc Tryz.prog W base spare held n T [v]=some y):∃l,d2p F (fun _=>True) W v l/\∀x∈l,G x:=by
 rcases DataW.trod_slice ht h with⟨e',_⟩|⟨a,len,cap,elems,rest,m',rfl,e',_,hb,hlc,_,hel',hat,_,_⟩
 ·simp only[List.cons.injEq,and_true] at e';subst e';exact⟨[],.nil _ W none 0,(fun y hy=>by cases hy)⟩
 ·simp only[List.cons.injEq,and_true] at e';subst e';obtain⟨f,hF⟩:=choose_lt (α:=α×Value) (n:=len) (p:=fun i x=>(∀j,j<F.n->W.cell? ((a.add (i * F.n)).add j)=(F.cells x.1 x.2)[j]?)/\gU W x.2 (F.ex x.1).args/\G x.1) (fun i hi=>by
   have hi':=hat i hi;rw[aP (by omega),hc] at hi';obtain⟨cs',hcs,ht'⟩:=dG.1 hi';obtain⟨x,sv,rfl,hr,hx⟩:=hel m' cs' _ ht';obtain⟨_,_,hg⟩:=World.cells?_some hcs;exact⟨(x,sv),hg,hr,hx⟩)
  have hm:len=((iU len).map fun i=>(f i).1).length:=(by simp);refine⟨(iU len).map fun i=>(f i).1,⟨some a,cap,fun i=>(f i).2,by rw[<-hm],fun j x hx=>?_⟩,fun y hy=>?_⟩
  ·rw[iJ] at hx;obtain⟨i,hi,rfl⟩:=aT.1 hx;have hj:j<len:=(by have:=(aO.1 hi).1;simpa using this);have hij:i=j:=by
    rw[List.getElem?_range hj] at hi;exact(Option.some.inj hi).symm
   subst hij;have h00:=(hF 0 (by omega)).1 0 h0;rw[show(a.add (0 * F.n)).add 0=a by rw[Nat.zero_mul];rfl] at h00;have hl0:0<(F.cells (f 0).1 (f 0).2).length:=(by rw[F.len];exact h0);rw[aP hl0] at h00;have ea:=cell_spot h00;have hcells:d2k W a.block (a.off+i * F.n) (F.cells (f i).1 (f i).2):=fun q u hu=>by
    have hq:q<F.n:=(by have:=(aO.1 hu).1;rw[F.len] at this;exact this);have hcc:=(hF i hj).1 q hq;rw[ea,c0s,c0s,hu] at hcc;exact hcc
   exact⟨a.block,a.off,by rw[<-ea],trivial,hcells.lt (by rw[F.len];exact h0),hcells,readsL_all (hF i hj).2.1⟩
  ·obtain⟨i,hi,rfl⟩:=List.mem_map.1 hy;exact(hF i (by simpa using hi)).2.2
theorem bool_of_trod{n:Nat}{cs:List Value}{y:DataW H×List MemPlace}(h:DataW.trod enc Tryz.prog W base spare held n 4 cs=some y):∃b:Bool,cs=[.bool b]:=by
 obtain⟨b,e,_⟩:=DataW.trod_bool Tryz.underlying4 h;exact⟨b,e⟩
theorem source_of_trod{n:Nat}{cs:List Value}{y:DataW H×List MemPlace}(h:DataW.trod enc Tryz.prog W base spare held n 24 cs=some y):∃s:So,cs=[S s.t,S s.al]:=by
 obtain⟨ys,m,rfl,_,hlen,hyl,hf⟩:=DataW.trod_struct Tryz.underlying24 h;rw[cellsT_Source] at hlen
 match cs,hlen with
 |[a,b],_=>
  have h0:DataW.trod enc Tryz.prog W base spare held m 9 (([a,b].drop 0).take (Tryz.prog.cellsOf 9))=ys[0]?:=hf 0 _ rfl;have h1:DataW.trod enc Tryz.prog W base spare held m 9 (([a,b].drop 1).take (Tryz.prog.cellsOf 9))=ys[1]?:=hf 1 _ rfl;have hs:ys.length=2:=hyl;simp only[b0t,oC,gB,List.take_succ_cons,List.take_zero] at h0 h1;rw[aP (by omega)] at h0 h1;obtain⟨t,e0,_⟩:=a4u h0;obtain⟨al,e1,_⟩:=a4u h1;simp only[List.cons.injEq,and_true] at e0 e1;subst e0 e1;exact⟨⟨t,al⟩,rfl⟩
theorem item_of_trod(n:Nat)(cs:List Value)(y:DataW H×List MemPlace)(h:DataW.trod enc Tryz.prog W base spare held n 91 cs=some y):∃x s,cs=fIt.cells x s/\gU W s (fIt.ex x).args/\GoodE (It.x x):=by
 obtain⟨ys,m,rfl,_,hlen,hyl,hf⟩:=DataW.trod_struct Tryz.underlying91 h;rw[cellsT_Item] at hlen
 match cs,hlen with
 |[a0,a1,a2,a3,a4,a5,a6,a7,a8,a9,a10],_=>
  have h0:DataW.trod enc Tryz.prog W base spare held m 4 (([a0,a1,a2,a3,a4,a5,a6,a7,a8,a9,a10].drop 0).take (Tryz.prog.cellsOf 4))=ys[0]?:=hf 0 _ rfl;have h1:DataW.trod enc Tryz.prog W base spare held m 9 (([a0,a1,a2,a3,a4,a5,a6,a7,a8,a9,a10].drop 1).take (Tryz.prog.cellsOf 9))=ys[1]?:=hf 1 _ rfl;have h2:DataW.trod enc Tryz.prog W base spare held m 33 (([a0,a1,a2,a3,a4,a5,a6,a7,a8,a9,a10].drop 2).take (Tryz.prog.cellsOf 33))=ys[2]?:=hf 2 _ rfl;have h3:DataW.trod enc Tryz.prog W base spare held m 9 (([a0,a1,a2,a3,a4,a5,a6,a7,a8,a9,a10].drop 10).take (Tryz.prog.cellsOf 9))=ys[3]?:=hf 3 _ rfl;have hs:ys.length=4:=hyl;simp only[cellsT_bool,b0t,b7l,oC,gB,List.take_succ_cons,List.take_zero] at h0 h1 h2 h3;rw[aP (by omega)] at h0 h1 h2 h3;obtain⟨st,e0⟩:=bool_of_trod h0;obtain⟨t,e1,_⟩:=a4u h1;obtain⟨x,sv,e2,hr,hf2,hk2⟩:=c4u _ _ _ h2;obtain⟨al,e3,_⟩:=a4u h3;simp only[qD,List.cons.injEq,and_true] at e0 e1 e2 e3;obtain⟨rfl,rfl,rfl,rfl,rfl,rfl,rfl,rfl⟩:=e2;subst e0 e1 e3;exact⟨⟨st,t,x,al⟩,_,rfl,hr,hf2,hk2⟩
theorem join_of_trod(n:Nat)(cs:List Value)(y:DataW H×List MemPlace)(h:DataW.trod enc Tryz.prog W base spare held n 78 cs=some y):∃x s,cs=fJo.cells x s/\gU W s (fJo.ex x).args/\GoodE (Jo.on x):=by
 obtain⟨ys,m,rfl,_,hlen,hyl,hf⟩:=DataW.trod_struct Tryz.underlying78 h;rw[cellsT_Join] at hlen
 match cs,hlen with
 |[a0,a1,a2,a3,a4,a5,a6,a7,a8,a9],_=>
  have h0:DataW.trod enc Tryz.prog W base spare held m 24 (([a0,a1,a2,a3,a4,a5,a6,a7,a8,a9].drop 0).take (Tryz.prog.cellsOf 24))=ys[0]?:=hf 0 _ rfl;have h1:DataW.trod enc Tryz.prog W base spare held m 33 (([a0,a1,a2,a3,a4,a5,a6,a7,a8,a9].drop 2).take (Tryz.prog.cellsOf 33))=ys[1]?:=hf 1 _ rfl;have hs:ys.length=2:=hyl;simp only[cellsT_Source,b7l,oC,gB,List.take_succ_cons,List.take_zero] at h0 h1;rw[aP (by omega)] at h0 h1;obtain⟨so,e0⟩:=source_of_trod h0;obtain⟨x,sv,e2,hr,hf2,hk2⟩:=c4u _ _ _ h1;simp only[qD,List.cons.injEq,and_true] at e0 e2;obtain⟨rfl,rfl⟩:=e0;obtain⟨rfl,rfl,rfl,rfl,rfl,rfl,rfl,rfl⟩:=e2;exact⟨⟨so,x⟩,_,rfl,hr,hf2,hk2⟩
theorem order_of_trod(n:Nat)(cs:List Value)(y:DataW H×List MemPlace)(h:DataW.trod enc Tryz.prog W base spare held n 80 cs=some y):∃x s,cs=fOd.cells x s/\gU W s (fOd.ex x).args/\GoodE (Od.x x):=by
 obtain⟨ys,m,rfl,_,hlen,hyl,hf⟩:=DataW.trod_struct Tryz.underlying80 h;rw[cellsT_Order] at hlen
 match cs,hlen with
 |[a0,a1,a2,a3,a4,a5,a6,a7,a8],_=>
  have h0:DataW.trod enc Tryz.prog W base spare held m 33 (([a0,a1,a2,a3,a4,a5,a6,a7,a8].drop 0).take (Tryz.prog.cellsOf 33))=ys[0]?:=hf 0 _ rfl;have h1:DataW.trod enc Tryz.prog W base spare held m 4 (([a0,a1,a2,a3,a4,a5,a6,a7,a8].drop 8).take (Tryz.prog.cellsOf 4))=ys[1]?:=hf 1 _ rfl;have hs:ys.length=2:=hyl;simp only[cellsT_bool,b7l,oC,gB,List.take_succ_cons,List.take_zero] at h0 h1;rw[aP (by omega)] at h0 h1;obtain⟨x,sv,e2,hr,hf2,hk2⟩:=c4u _ _ _ h0;obtain⟨d,e1⟩:=bool_of_trod h1;simp only[qD,List.cons.injEq,and_true] at e1 e2;obtain⟨rfl,rfl,rfl,rfl,rfl,rfl,rfl,rfl⟩:=e2;subst e1;exact⟨⟨x,d⟩,_,rfl,hr,hf2,hk2⟩
structure GoodQ(q:Qu):Prop where
 items:∀i∈q.items,GoodE i.x
 joins:∀j∈q.joins,GoodE j.on
 wher:GoodE q.wher
 group:∀x∈q.group,GoodE x
 having:GoodE q.having
 orders:∀o∈q.orders,GoodE o.x
 limit:I64 q.limit
theorem cells_query{m:Nat}{cs:List Value}{y:DataW H×List MemPlace}(h:DataW.trod enc Tryz.prog W base spare held m 36 cs=some y):
  ∃q si sj sw sg sh so,cs=[.bool q.distinct,si,S q.frm.t,S q.frm.al,sj,.int .i64 q.wher.k,.int .i64 q.wher.v.1,.int .i64 q.wher.v.2.1,S q.wher.v.2.2,S q.wher.t,S q.wher.n,.int .i64 q.wher.o,sw,sg,
   .int .i64 q.having.k,.int .i64 q.having.v.1,.int .i64 q.having.v.2.1,S q.having.v.2.2,S q.having.t,S q.having.n,.int .i64 q.having.o,sh,so,.int .i64 q.limit]/\d2t (fun _=>True) W q si sj sw sg sh so/\GoodQ q:=by
 obtain⟨ys,m,rfl,_,hlen,hyl,hf⟩:=DataW.trod_struct Tryz.underlying36 h;rw[cellsT_Query] at hlen
 match cs,hlen with
 |[a0,a1,a2,a3,a4,a5,a6,a7,a8,a9,a10,a11,a12,a13,a14,a15,a16,a17,a18,a19,a20,a21,a22,a23],_=>
  obtain⟨L,hL⟩:∃L,L=[a0,a1,a2,a3,a4,a5,a6,a7,a8,a9,a10,a11,a12,a13,a14,a15,a16,a17,a18,a19,a20,a21,a22,a23]:=⟨_,rfl⟩
  rw[<-hL] at hf;have h0:DataW.trod enc Tryz.prog W base spare held m 4 ((L.drop 0).take (Tryz.prog.cellsOf 4))=ys[0]?:=hf 0 _ rfl;have h1:DataW.trod enc Tryz.prog W base spare held m 22 ((L.drop 1).take (Tryz.prog.cellsOf 22))=ys[1]?:=hf 1 _ rfl;have h2:DataW.trod enc Tryz.prog W base spare held m 24 ((L.drop 2).take (Tryz.prog.cellsOf 24))=ys[2]?:=hf 2 _ rfl;have h3:DataW.trod enc Tryz.prog W base spare held m 25 ((L.drop 4).take (Tryz.prog.cellsOf 25))=ys[3]?:=hf 3 _ rfl;have h4:DataW.trod enc Tryz.prog W base spare held m 33 ((L.drop 5).take (Tryz.prog.cellsOf 33))=ys[4]?:=hf 4 _ rfl;have h5:DataW.trod enc Tryz.prog W base spare held m 31 ((L.drop 13).take (Tryz.prog.cellsOf 31))=ys[5]?:=hf 5 _ rfl;have h6:DataW.trod enc Tryz.prog W base spare held m 33 ((L.drop 14).take (Tryz.prog.cellsOf 33))=ys[6]?:=hf 6 _ rfl;have h7:DataW.trod enc Tryz.prog W base spare held m 34 ((L.drop 22).take (Tryz.prog.cellsOf 34))=ys[7]?:=hf 7 _ rfl;have h8:DataW.trod enc Tryz.prog W base spare held m 2 ((L.drop 23).take (Tryz.prog.cellsOf 2))=ys[8]?:=hf 8 _ rfl;have hs:ys.length=9:=hyl;subst hL;simp only[cellsT_bool,cellsT_Source,cellsT_sliceItem,cellsT_sliceJoin,cellsT_sliceOrder,b3t,c2e,b7l,oC,gB,List.take_succ_cons,List.take_zero] at h0 h1 h2 h3 h4 h5 h6 h7 h8;rw[aP (by omega)] at h0 h1 h2 h3 h4 h5 h6 h7 h8;obtain⟨d,e0⟩:=bool_of_trod h0;obtain⟨li,r1,g1⟩:=rows_of_trod (F:=fIt) Tryz.underlying22 cellsT_Item (by decide) item_of_trod h1;obtain⟨so,e2⟩:=source_of_trod h2;obtain⟨lj,r3,g3⟩:=rows_of_trod (F:=fJo) Tryz.underlying25 cellsT_Join (by decide) join_of_trod h3;obtain⟨x,sx,e4,r4,g4⟩:=c4u _ _ _ h4;obtain⟨lg,r5,g5⟩:=rows_of_trod (F:=fEx) Tryz.underlying31 b7l (by decide) c4u h5;obtain⟨z,sz,e6,r6,g6⟩:=c4u _ _ _ h6;obtain⟨lo,r7,g7⟩:=rows_of_trod (F:=fOd) Tryz.underlying34 cellsT_Order (by decide) order_of_trod h7;obtain⟨lim,e8,_,w8⟩:=DataW.trod_int Tryz.underlying2 h8;simp only[qD,List.cons.injEq,and_true] at e0 e2 e4 e6 e8;obtain⟨rfl,rfl⟩:=e2;obtain⟨rfl,rfl,rfl,rfl,rfl,rfl,rfl,rfl⟩:=e4;obtain⟨rfl,rfl,rfl,rfl,rfl,rfl,rfl,rfl⟩:=e6;subst e0 e8;exact⟨⟨d,li,so,lj,x,lg,z,lo,lim⟩,_,_,_,_,_,_,rfl,⟨r1,r3,readsL_all r4,e3a r5,readsL_all r6,r7⟩,⟨g1,g3,g4,g5,g6,g7,c8r w8⟩⟩
theorem query_of_trod{b0:Nat}{v:Value}{d:DataW H}{ps:List MemPlace}(hv:Value.okWide Tryz.prog W .any b0 36 v)(h:DataW.Trod enc Tryz.prog W base spare held 36 v d ps):∃q,d5o W q v/\GoodQ q:=by
 obtain⟨cs,rfl,hsz⟩:=okWide_struct Tryz.underlying36 hv;obtain⟨fuel,hf⟩:=h;obtain⟨q,si,sj,sw,sg,sh,so,e,hr,hx⟩:=cells_query hf;refine⟨q,⟨si,sj,sw,sg,sh,so,?_,hr⟩,hx⟩;have e':cs.toList=_:=e;have e2:cs=cs.toList.toArray:=(by simp);rw[e2,e']
end
end
end Go.Proofs.YtfkekkgfmhcanaaGreatDoor
