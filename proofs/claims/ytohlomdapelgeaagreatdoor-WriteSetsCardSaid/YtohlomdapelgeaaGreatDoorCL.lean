/- Texts RW OS OX OQ. -/
import Derived.Test.YtohlomdapelgeaaGreatDoorCA
import Derived.Test.YtohlomdapelgeaaGreatDoorRows
import Derived.ProofKit
import Derived.OpenShut
import Derived.LaidMore
import Derived.Lay
import Derived.HandedShaped
import Derived.Shelf.Vars
import Derived.Stop.LaidErr
import Derived.Stop.Joined
import Derived.Test.YtohlomdapelgeaaGreatDoorCC
import Derived.Deep.Strs
import Derived.Deep.Slices
import Derived.Deep.Fields
import Derived.ChangeSame
import Derived.WideShapes
namespace Go.Proofs.YtohlomdapelgeaaGreatDoor
open _root_.Go.Proofs.Tryz
open Go.ChangeShapes Go.WideShapes Go.ChangeAt Go.RowKit
open Go.ChangeShapes Go.WideShapes Go.ChangeAt Go.RowKit Go.Deep
open _root_.Go.Addr renaming add->dY
open _root_.List renaming drop_succ_cons->gB,drop_zero->oC,getElem?_eq_getElem->aP,getElem?_eq_some_iff->aO,getElem?_map->iJ,range->iU
open _root_.Option renaming bind_eq_some_iff->dG,map_eq_some_iff->aT
set_option maxRecDepth 100000
section
theorem wrap{H:Type}{enc:TypeId×Value->H}{a:Assume}{C:Checked}{os:Os}{f:FuncId}{fn:Func}{s:ChangeSpec}{conds:List PathCond}{apart fresh handsOn again:Bool}{X:World->Array Value->Prop}
  (hX:∀(w w':World) (args:Array Value),w.heap=w'.heap->X w args->X w' args)
  (own:ownKnob C.prog.godebug=none) (started:os.Started) (noInit:C.prog.inits.idxOf? f=none) (hfn:C.prog.funcs[f]?=some fn)
  (witness:∃(w:World) (tape:Tape) (i:Input),w.os=os/\(w.forCall tape i).Shaped C.prog/\i.vars=[]/\Input.okWide C.prog (w.forCall tape i) .any w.heap.size f i/\
   ((s.pre enc C.prog fn conds apart (w.forCall tape i).memory i.args/\X (w.forCall tape i).memory i.args)/\sizedMet enc C.prog fn (OpenSpec.ofChange s) apart (w.forCall tape i).memory i.args)/\a.holds C.prog (lone (Frame.enter C.prog f i.args .normal) [] (w.forCall tape i)))
  (contract:∀(W:World) (base:Nat) (args:Array Value) (ds gs:List (DataW H)) (before:List MemPlace),
   (∀(j:Nat) t v,fn.params[j]?=some t->args[j]?=some v->Value.okWide C.prog W .any base t v)->
   DataW.Whole enc C.prog fn.params.toList s.vars apart W args.toList ds gs before->
   (DataW.weightsEach C.prog (fn.params.toList++s.plain.varTypes C.prog) (ds++gs)).all (·<=reachBytes)=true->X W args->W.ShapedOpen C.prog->
   Calls C.prog f args W fun e W'=>∃v,e= .returned v/\s.post enc C.prog fn apart fresh handsOn again W args v W'):
  ReturnsInHanded a C os f .any (fun w args=>(s.pre enc C.prog fn conds apart w args/\X w args)/\sizedMet enc C.prog fn (OpenSpec.ofChange s) apart w args) (s.post enc C.prog fn apart fresh handsOn again):=by
 refine returnsInHanded_of_calls own started noInit witness ?_;intro w tape i _ hsh _ hok hpre _;obtain⟨_,_,_,fn',hfn',_,_,_,_,hval⟩:=hok;have e:fn'=fn:=Option.some.inj (hfn'.symm.trans hfn);subst e;obtain⟨⟨⟨ds,gs,before,hw,_⟩,hx⟩,hz⟩:=hpre;have hw':=DataW.Whole.of_heap (w':=w.forCall tape i) ab hw;refine(contract (w.forCall tape i) w.heap.size i.args ds gs before hval hw' (hz.weights hw) (hX _ _ _ ab hx) hsh).mono fun e W' ⟨v,he,hp⟩=>?_;subst he;exact ChangeSpec.post_blind hp
theorem own:ownKnob prog.godebug=none:=by kernel_rfl
end
section
theorem cell_spot{W:World}{a:Addr}{v:Value}(h:W.cell? a=some v):a=⟨a.block,a.off,none⟩:=by
 obtain⟨b,o,s⟩:=a;cases s with
 |none=>rfl
 |some s=>
  simp only[World.cell?] at h;split at h<;>simp at h
theorem c0s(b o j:Nat):(⟨b,o,none⟩:Addr).add j=⟨b,o+j,none⟩:=by
 unfold dY;split
 ·subst_vars;rfl
 ·rfl
theorem c4o:prog.cellsOf 9=1:=by kernel_rfl
theorem c2v{a:Option Addr}{len:Nat}{V:Nat->Value}{W:World}(h:∀i,i<len->∃a',a=some a'/\W.cell? (a'.add i)=some (V i)):∀j,j<len->∃b off,a=some ⟨b,off,none⟩/\W.cell? ⟨b,off+j,none⟩=some (V j):=by
 intro j hj;obtain⟨a',rfl,hc⟩:=h j hj;obtain⟨a'',e,hc0⟩:=h 0 aE;injection e with e;subst e;rw[show a'.add 0=a' from rfl] at hc0;have ea:=cell_spot hc0;refine⟨a'.block,a'.off,by rw[<-ea],?_⟩;rw[ea,c0s] at hc;exact hc
def bytesOf:Value->List UInt8
 | .string s=>s.data.toList
 |_=>[]
section
variable {H:Type} {enc:TypeId×Value->H} {W:World} {base:Nat} {spare:Nat->Bool} {held:Bool}
theorem c8o{n:Nat}{v:Value}{y:DataW H×List MemPlace}(h:DataW.trod enc prog W base spare held n 27 [v]=some y):∃xs,Strs W v xs:=by
 rcases open_slice1 underlying27 c4o h with⟨hcs,_⟩|⟨a,len,cap,m,n',V,D,Pl,hcs,_,hl,hm,hmm,_,hc⟩
 ·simp only[List.cons.injEq,and_true] at hcs;exact⟨[],none,0,hcs,fun j hj=>by simp at hj⟩
 ·simp only[List.cons.injEq,and_true] at hcs;have hlm:len<=m:=(by rw[hmm];split<;>omega);have hs:∀i,i<len->V i=S (bytesOf (V i)):=fun i hi=>by
   obtain⟨s,e,_,_⟩:=DataW.trod_string underlying9 (hc i aE).2;simp only[List.cons.injEq,and_true] at e;rw[e];rfl
  have hw:=c2v (a:=some a) (len:=len) (V:=V) (W:=W) (fun i hi=>⟨a,rfl,(hc i aE).1⟩);refine⟨(iU len).map fun i=>bytesOf (V i),some a,cap,by simpa using hcs,fun j hj=>?_⟩;have hj':j<len:=cD;obtain⟨b,off,e,c⟩:=hw j hj';refine⟨b,off,e,?_⟩;rw[c,hs j hj'];simp[bytesOf]
end
section
variable {H:Type} {enc:TypeId×Value->H} {P:Program} {w:World} {base:Nat} {spare:Nat->Bool} {held:Bool}
end
end
section
theorem c3x:prog.cellsOf 32=1:=by kernel_rfl
theorem c2e:prog.cellsOf 2=1:=by kernel_rfl
theorem b0t:prog.cellsOf 9=1:=by kernel_rfl
theorem b7k:prog.cellsOf 31=1:=by kernel_rfl
theorem c6v:prog.cellsOf 35=1:=by kernel_rfl
theorem b3q:prog.cellsOf 34=3:=by kernel_rfl
theorem b3t:prog.cellsOf 36=1:=by kernel_rfl
theorem b7l:prog.cellsOf 38=8:=by kernel_rfl
inductive c4f:Ex->Prop where
 |mk (k:Int) (v:Int×Int×List UInt8) (t n:List UInt8) (o:Int) (args:List Ex) (h:I64 v.1) (ha:∀y,y∈args->c4f y):c4f (.mk k v t n o args)
instance:Inhabited Ex:=⟨zeroE⟩
section
variable {H:Type} {enc:TypeId×Value->H} {W:World} {base:Nat} {spare:Nat->Bool} {held:Bool}
theorem c8r{n:Int}(h:(Lit.int .i64 n).wf=true):I64 n:=by
 exact bounds_i64 h
theorem a4u{n:Nat}{cs:List Value}{y:DataW H×List MemPlace}(h:DataW.trod enc prog W base spare held n 9 cs=some y):∃l:List UInt8,cs=[S l]/\l.length<=maxLen:=by
 obtain⟨s,e,_,hs⟩:=DataW.trod_string underlying9 h;obtain⟨⟨s⟩⟩:=s;exact⟨s,e,by simpa[ByteArray.size] using hs⟩
theorem b8r{n:Nat}{cs:List Value}{y:DataW H×List MemPlace}(h:DataW.trod enc prog W base spare held n 34 cs=some y):∃v:Int×Int×List UInt8,cs=[.int .i64 v.1,.int .i64 v.2.1,S v.2.2]/\I64 v.1/\I64 v.2.1/\v.2.2.length<=maxLen:=by
 obtain⟨ys,m,_,_,hlen,hyl,hf⟩:=DataW.trod_struct underlying34 h;rw[b3q] at hlen
 match cs,hlen with
 |[a,b,c],_=>
  have h0:DataW.trod enc prog W base spare held m 32 (([a,b,c].drop 0).take (prog.cellsOf 32))=ys[0]?:=hf 0 _ rfl;have h1:DataW.trod enc prog W base spare held m 2 (([a,b,c].drop 1).take (prog.cellsOf 2))=ys[1]?:=hf 1 _ rfl;have h2:DataW.trod enc prog W base spare held m 9 (([a,b,c].drop 2).take (prog.cellsOf 9))=ys[2]?:=hf 2 _ rfl;have hs:ys.length=3:=hyl;simp only[c3x,c2e,b0t,oC,gB,List.take_succ_cons,List.take_zero] at h0 h1 h2;rw[aP aE] at h0 h1 h2;obtain⟨i0,e0,_,w0⟩:=DataW.trod_int underlying32 h0;obtain⟨i1,e1,_,w1⟩:=DataW.trod_int underlying2 h1;obtain⟨l,e2,hl⟩:=a4u h2;simp only[List.cons.injEq,and_true] at e0 e1 e2;subst e0 e1 e2;exact⟨(i0,i1,l),rfl,c8r w0,c8r w1,hl⟩
theorem c4u:∀(n:Nat) (cs:List Value) (y:DataW H×List MemPlace),DataW.trod enc prog W base spare held n 38 cs=some y->∃x sv,cs=qD x sv/\gU W sv x.args/\Fits x/\c4f x:=by
 intro n
 induction n using Nat.strongRecOn with
 |ind n ih=>
  intro cs y h;obtain⟨ys,m,rfl,_,hlen,hyl,hf⟩:=DataW.trod_struct underlying38 h;rw[b7l] at hlen
  match cs,hlen with
  |[a0,a1,a2,a3,a4,a5,a6,a7],_=>
   have h0:DataW.trod enc prog W base spare held m 31 (([a0,a1,a2,a3,a4,a5,a6,a7].drop 0).take (prog.cellsOf 31))=ys[0]?:=hf 0 _ rfl;have h1:DataW.trod enc prog W base spare held m 34 (([a0,a1,a2,a3,a4,a5,a6,a7].drop 1).take (prog.cellsOf 34))=ys[1]?:=hf 1 _ rfl;have h2:DataW.trod enc prog W base spare held m 9 (([a0,a1,a2,a3,a4,a5,a6,a7].drop 4).take (prog.cellsOf 9))=ys[2]?:=hf 2 _ rfl;have h3:DataW.trod enc prog W base spare held m 9 (([a0,a1,a2,a3,a4,a5,a6,a7].drop 5).take (prog.cellsOf 9))=ys[3]?:=hf 3 _ rfl;have h4:DataW.trod enc prog W base spare held m 35 (([a0,a1,a2,a3,a4,a5,a6,a7].drop 6).take (prog.cellsOf 35))=ys[4]?:=hf 4 _ rfl;have h5:DataW.trod enc prog W base spare held m 36 (([a0,a1,a2,a3,a4,a5,a6,a7].drop 7).take (prog.cellsOf 36))=ys[5]?:=hf 5 _ rfl;have hs:ys.length=6:=hyl;simp only[b7k,b3q,b0t,c6v,b3t,oC,gB,List.take_succ_cons,List.take_zero] at h0 h1 h2 h3 h4 h5;rw[aP aE] at h0 h1 h2 h3 h4 h5;obtain⟨k,e0,_,_⟩:=DataW.trod_int underlying31 h0;obtain⟨v,e1,hi0,hi,_⟩:=b8r h1;obtain⟨t,e2,_⟩:=a4u h2;obtain⟨nm,e3,_⟩:=a4u h3;obtain⟨o,e4,_,_⟩:=DataW.trod_int underlying35 h4;simp only[List.cons.injEq,and_true] at e0 e1 e2 e3 e4;obtain⟨rfl,rfl,rfl⟩:=e1;subst e0 e2 e3 e4
   suffices hl:∃l,gU W a7 l/\(∀y∈l,Fits y)/\∀y∈l,c4f y by
    obtain⟨l,hl,hfl,hkl⟩:=hl;exact⟨.mk k v t nm o l,a7,rfl,hl,.mk k v t nm o l hi hfl,.mk k v t nm o l hi0 hkl⟩
   clear hf h0 h1 h2 h3 h4;rcases DataW.trod_slice underlying36 h5 with⟨e,_⟩|⟨a,len,cap,elems,rest,m',rfl,e,_,hb,hlc,_,hel,hat,_,_⟩
   ·simp only[List.cons.injEq,and_true] at e;subst e;exact⟨[],gU.nil W none 0,(fun y hy=>by cases hy),(fun y hy=>by cases hy)⟩
   ·simp only[List.cons.injEq,and_true] at e;subst e;obtain⟨F,hF⟩:=choose_lt (α:=Ex×Value) (n:=len) (p:=fun i x=>(∀j,j<8->W.cell? ((a.add (i * 8)).add j)=(qD x.1 x.2)[j]?)/\gU W x.2 x.1.args/\Fits x.1/\c4f x.1) (fun i hi=>by
     have hi':=hat i hi;rw[aP aE,b7l] at hi';obtain⟨cs',hc,ht⟩:=dG.1 hi';obtain⟨x,sv,rfl,hr,hx⟩:=ih m' aE cs' _ ht;obtain⟨_,_,hg⟩:=World.cells?_some hc;exact⟨(x,sv),hg,hr,hx⟩)
    have hm:len=((iU len).map fun i=>(F i).1).length:=aa;refine⟨(iU len).map fun i=>(F i).1,?_,fun y hy=>?_,fun y hy=>?_⟩
    ·conv=>arg 2;rw[hm]
     refine .mk (some a) cap _ (fun i=>(F i).2) (fun j x hx=>?_) (fun j x hx=>?_)
     ·rw[iJ] at hx;obtain⟨i,hi,rfl⟩:=aT.1 hx;have hj:j<len:=(by have:=(aO.1 hi).1;simpa using this);have hij:i=j:=by
       rw[List.getElem?_range hj] at hi;exact(Option.some.inj hi).symm
      subst hij;have h00:=(hF 0 aE).1 0 aE;rw[show(a.add (0 * 8)).add 0=a from rfl] at h00;have ea:=cell_spot (v:= .int .i64 (F 0).1.k) h00;refine⟨a.block,a.off,by rw[<-ea],yI fun q hq=>?_⟩;have hc:=(hF i hj).1 q hq;rw[ea,c0s,c0s] at hc;exact hc
     ·rw[iJ] at hx;obtain⟨i,hi,rfl⟩:=aT.1 hx;have hj:j<len:=(by have:=(aO.1 hi).1;simpa using this);have hij:i=j:=by
       rw[List.getElem?_range hj] at hi;exact(Option.some.inj hi).symm
      subst hij;exact(hF i hj).2.1
    ·obtain⟨i,hi,rfl⟩:=List.mem_map.1 hy;exact(hF i (by simpa using hi)).2.2.1
    ·obtain⟨i,hi,rfl⟩:=List.mem_map.1 hy;exact(hF i (by simpa using hi)).2.2.2
end
end
section
theorem cellsT_bool:prog.cellsOf 4=1:=by kernel_rfl
theorem cellsT_Item:prog.cellsOf 103=11:=by kernel_rfl
theorem cellsT_Source:prog.cellsOf 26=2:=by kernel_rfl
theorem cellsT_Join:prog.cellsOf 91=10:=by kernel_rfl
theorem cellsT_Order:prog.cellsOf 93=9:=by kernel_rfl
theorem cellsT_Query:prog.cellsOf 41=24:=by kernel_rfl
theorem cellsT_sliceItem:prog.cellsOf 29=1:=by kernel_rfl
theorem cellsT_sliceJoin:prog.cellsOf 30=1:=by kernel_rfl
theorem cellsT_sliceOrder:prog.cellsOf 39=1:=by kernel_rfl
instance:Inhabited It:=⟨⟨false,[],zeroE,[]⟩⟩
instance:Inhabited Jo:=⟨⟨⟨[],[]⟩,zeroE⟩⟩
instance:Inhabited Od:=⟨⟨zeroE,false⟩⟩
abbrev GoodE(x:Ex):Prop:=Fits x/\c4f x
section
variable {H:Type} {enc:TypeId×Value->H} {W:World} {base:Nat} {spare:Nat->Bool} {held:Bool}
theorem rows_of_trod{α:Type}[Inhabited α]{F:Form α}{G:α->Prop}{T e:TypeId}(ht:prog.underlying T=some (.slice e))(hc:prog.cellsOf e=F.n)(h0:0<F.n)
  (hel:∀(m:Nat) (cs:List Value) (y:DataW H×List MemPlace),DataW.trod enc prog W base spare held m e cs=some y->∃x s,cs=F.cells x s/\gU W s (F.ex x).args/\G x)
  {n:Nat} {v:Value} {y:DataW H×List MemPlace} (h:DataW.trod enc prog W base spare held n T [v]=some y):∃l,d2p F (fun _=>True) W v l/\∀x∈l,G x:=by
 rcases DataW.trod_slice ht h with⟨e',_⟩|⟨a,len,cap,elems,rest,m',rfl,e',_,hb,hlc,_,hel',hat,_,_⟩
 ·simp only[List.cons.injEq,and_true] at e';subst e';exact⟨[],.nil _ W none 0,(fun y hy=>by cases hy)⟩
 ·simp only[List.cons.injEq,and_true] at e';subst e';obtain⟨f,hF⟩:=choose_lt (α:=α×Value) (n:=len) (p:=fun i x=>(∀j,j<F.n->W.cell? ((a.add (i * F.n)).add j)=(F.cells x.1 x.2)[j]?)/\gU W x.2 (F.ex x.1).args/\G x.1) (fun i hi=>by
   have hi':=hat i hi;rw[aP aE,hc] at hi';obtain⟨cs',hcs,ht'⟩:=dG.1 hi';obtain⟨x,sv,rfl,hr,hx⟩:=hel m' cs' _ ht';obtain⟨_,_,hg⟩:=World.cells?_some hcs;exact⟨(x,sv),hg,hr,hx⟩)
  have hm:len=((iU len).map fun i=>(f i).1).length:=aa;refine⟨(iU len).map fun i=>(f i).1,⟨some a,cap,fun i=>(f i).2,by rw[<-hm],fun j x hx=>?_⟩,fun y hy=>?_⟩
  ·rw[iJ] at hx;obtain⟨i,hi,rfl⟩:=aT.1 hx;have hj:j<len:=(by have:=(aO.1 hi).1;simpa using this);have hij:i=j:=by
    rw[List.getElem?_range hj] at hi;exact(Option.some.inj hi).symm
   subst hij;have h00:=(hF 0 aE).1 0 h0;rw[show(a.add (0 * F.n)).add 0=a by rw[Nat.zero_mul];rfl] at h00;have hl0:0<(F.cells (f 0).1 (f 0).2).length:=(by rw[F.len];exact h0);rw[aP hl0] at h00;have ea:=cell_spot h00;have hcells:d2k W a.block (a.off+i * F.n) (F.cells (f i).1 (f i).2):=fun q u hu=>by
    have hq:q<F.n:=(by have:=(aO.1 hu).1;rw[F.len] at this;exact this);have hcc:=(hF i hj).1 q hq;rw[ea,c0s,c0s,hu] at hcc;exact hcc
   exact⟨a.block,a.off,by rw[<-ea],trivial,hcells.lt (by rw[F.len];exact h0),hcells,readsL_all (hF i hj).2.1⟩
  ·obtain⟨i,hi,rfl⟩:=List.mem_map.1 hy;exact(hF i (by simpa using hi)).2.2
theorem bool_of_trod{n:Nat}{cs:List Value}{y:DataW H×List MemPlace}(h:DataW.trod enc prog W base spare held n 4 cs=some y):∃b:Bool,cs=[.bool b]:=by
 obtain⟨b,e,_⟩:=DataW.trod_bool underlying4 h;exact⟨b,e⟩
theorem source_of_trod{n:Nat}{cs:List Value}{y:DataW H×List MemPlace}(h:DataW.trod enc prog W base spare held n 26 cs=some y):∃s:So,cs=[S s.t,S s.al]:=by
 obtain⟨ys,m,rfl,_,hlen,hyl,hf⟩:=DataW.trod_struct underlying26 h;rw[cellsT_Source] at hlen
 match cs,hlen with
 |[a,b],_=>
  have h0:DataW.trod enc prog W base spare held m 9 (([a,b].drop 0).take (prog.cellsOf 9))=ys[0]?:=hf 0 _ rfl;have h1:DataW.trod enc prog W base spare held m 9 (([a,b].drop 1).take (prog.cellsOf 9))=ys[1]?:=hf 1 _ rfl;have hs:ys.length=2:=hyl;simp only[b0t,oC,gB,List.take_succ_cons,List.take_zero] at h0 h1;rw[aP aE] at h0 h1;obtain⟨t,e0,_⟩:=a4u h0;obtain⟨al,e1,_⟩:=a4u h1;simp only[List.cons.injEq,and_true] at e0 e1;subst e0 e1;exact⟨⟨t,al⟩,rfl⟩
theorem item_of_trod(n:Nat)(cs:List Value)(y:DataW H×List MemPlace)(h:DataW.trod enc prog W base spare held n 103 cs=some y):∃x s,cs=fIt.cells x s/\gU W s (fIt.ex x).args/\GoodE (It.x x):=by
 obtain⟨ys,m,rfl,_,hlen,hyl,hf⟩:=DataW.trod_struct underlying103 h;rw[cellsT_Item] at hlen
 match cs,hlen with
 |[a0,a1,a2,a3,a4,a5,a6,a7,a8,a9,a10],_=>
  have h0:DataW.trod enc prog W base spare held m 4 (([a0,a1,a2,a3,a4,a5,a6,a7,a8,a9,a10].drop 0).take (prog.cellsOf 4))=ys[0]?:=hf 0 _ rfl;have h1:DataW.trod enc prog W base spare held m 9 (([a0,a1,a2,a3,a4,a5,a6,a7,a8,a9,a10].drop 1).take (prog.cellsOf 9))=ys[1]?:=hf 1 _ rfl;have h2:DataW.trod enc prog W base spare held m 38 (([a0,a1,a2,a3,a4,a5,a6,a7,a8,a9,a10].drop 2).take (prog.cellsOf 38))=ys[2]?:=hf 2 _ rfl;have h3:DataW.trod enc prog W base spare held m 9 (([a0,a1,a2,a3,a4,a5,a6,a7,a8,a9,a10].drop 10).take (prog.cellsOf 9))=ys[3]?:=hf 3 _ rfl;have hs:ys.length=4:=hyl;simp only[cellsT_bool,b0t,b7l,oC,gB,List.take_succ_cons,List.take_zero] at h0 h1 h2 h3;rw[aP aE] at h0 h1 h2 h3;obtain⟨st,e0⟩:=bool_of_trod h0;obtain⟨t,e1,_⟩:=a4u h1;obtain⟨x,sv,e2,hr,hf2,hk2⟩:=c4u _ _ _ h2;obtain⟨al,e3,_⟩:=a4u h3;simp only[qD,List.cons.injEq,and_true] at e0 e1 e2 e3;obtain⟨rfl,rfl,rfl,rfl,rfl,rfl,rfl,rfl⟩:=e2;subst e0 e1 e3;exact⟨⟨st,t,x,al⟩,_,rfl,hr,hf2,hk2⟩
theorem join_of_trod(n:Nat)(cs:List Value)(y:DataW H×List MemPlace)(h:DataW.trod enc prog W base spare held n 91 cs=some y):∃x s,cs=fJo.cells x s/\gU W s (fJo.ex x).args/\GoodE (Jo.on x):=by
 obtain⟨ys,m,rfl,_,hlen,hyl,hf⟩:=DataW.trod_struct underlying91 h;rw[cellsT_Join] at hlen
 match cs,hlen with
 |[a0,a1,a2,a3,a4,a5,a6,a7,a8,a9],_=>
  have h0:DataW.trod enc prog W base spare held m 26 (([a0,a1,a2,a3,a4,a5,a6,a7,a8,a9].drop 0).take (prog.cellsOf 26))=ys[0]?:=hf 0 _ rfl;have h1:DataW.trod enc prog W base spare held m 38 (([a0,a1,a2,a3,a4,a5,a6,a7,a8,a9].drop 2).take (prog.cellsOf 38))=ys[1]?:=hf 1 _ rfl;have hs:ys.length=2:=hyl;simp only[cellsT_Source,b7l,oC,gB,List.take_succ_cons,List.take_zero] at h0 h1;rw[aP aE] at h0 h1;obtain⟨so,e0⟩:=source_of_trod h0;obtain⟨x,sv,e2,hr,hf2,hk2⟩:=c4u _ _ _ h1;simp only[qD,List.cons.injEq,and_true] at e0 e2;obtain⟨rfl,rfl⟩:=e0;obtain⟨rfl,rfl,rfl,rfl,rfl,rfl,rfl,rfl⟩:=e2;exact⟨⟨so,x⟩,_,rfl,hr,hf2,hk2⟩
theorem order_of_trod(n:Nat)(cs:List Value)(y:DataW H×List MemPlace)(h:DataW.trod enc prog W base spare held n 93 cs=some y):∃x s,cs=fOd.cells x s/\gU W s (fOd.ex x).args/\GoodE (Od.x x):=by
 obtain⟨ys,m,rfl,_,hlen,hyl,hf⟩:=DataW.trod_struct underlying93 h;rw[cellsT_Order] at hlen
 match cs,hlen with
 |[a0,a1,a2,a3,a4,a5,a6,a7,a8],_=>
  have h0:DataW.trod enc prog W base spare held m 38 (([a0,a1,a2,a3,a4,a5,a6,a7,a8].drop 0).take (prog.cellsOf 38))=ys[0]?:=hf 0 _ rfl;have h1:DataW.trod enc prog W base spare held m 4 (([a0,a1,a2,a3,a4,a5,a6,a7,a8].drop 8).take (prog.cellsOf 4))=ys[1]?:=hf 1 _ rfl;have hs:ys.length=2:=hyl;simp only[cellsT_bool,b7l,oC,gB,List.take_succ_cons,List.take_zero] at h0 h1;rw[aP aE] at h0 h1;obtain⟨x,sv,e2,hr,hf2,hk2⟩:=c4u _ _ _ h0;obtain⟨d,e1⟩:=bool_of_trod h1;simp only[qD,List.cons.injEq,and_true] at e1 e2;obtain⟨rfl,rfl,rfl,rfl,rfl,rfl,rfl,rfl⟩:=e2;subst e1;exact⟨⟨x,d⟩,_,rfl,hr,hf2,hk2⟩
structure GoodQ(q:Qu):Prop where
 items:∀i∈q.items,GoodE i.x
 joins:∀j∈q.joins,GoodE j.on
 wher:GoodE q.wher
 group:∀x∈q.group,GoodE x
 having:GoodE q.having
 orders:∀o∈q.orders,GoodE o.x
 limit:I64 q.limit
theorem cells_query{m:Nat}{cs:List Value}{y:DataW H×List MemPlace}(h:DataW.trod enc prog W base spare held m 41 cs=some y):
  ∃q si sj sw sg sh so,cs=[.bool q.distinct,si,S q.frm.t,S q.frm.al,sj,.int .i64 q.wher.k,.int .i64 q.wher.v.1,.int .i64 q.wher.v.2.1,S q.wher.v.2.2,S q.wher.t,S q.wher.n,.int .i64 q.wher.o,sw,sg,
   .int .i64 q.having.k,.int .i64 q.having.v.1,.int .i64 q.having.v.2.1,S q.having.v.2.2,S q.having.t,S q.having.n,.int .i64 q.having.o,sh,so,.int .i64 q.limit]/\d2t (fun _=>True) W q si sj sw sg sh so/\GoodQ q:=by
 obtain⟨ys,m,rfl,_,hlen,hyl,hf⟩:=DataW.trod_struct underlying41 h;rw[cellsT_Query] at hlen
 match cs,hlen with
 |[a0,a1,a2,a3,a4,a5,a6,a7,a8,a9,a10,a11,a12,a13,a14,a15,a16,a17,a18,a19,a20,a21,a22,a23],_=>
  obtain⟨L,hL⟩:∃L,L=[a0,a1,a2,a3,a4,a5,a6,a7,a8,a9,a10,a11,a12,a13,a14,a15,a16,a17,a18,a19,a20,a21,a22,a23]:=⟨_,rfl⟩
  rw[<-hL] at hf;have h0:DataW.trod enc prog W base spare held m 4 ((L.drop 0).take (prog.cellsOf 4))=ys[0]?:=hf 0 _ rfl;have h1:DataW.trod enc prog W base spare held m 29 ((L.drop 1).take (prog.cellsOf 29))=ys[1]?:=hf 1 _ rfl;have h2:DataW.trod enc prog W base spare held m 26 ((L.drop 2).take (prog.cellsOf 26))=ys[2]?:=hf 2 _ rfl;have h3:DataW.trod enc prog W base spare held m 30 ((L.drop 4).take (prog.cellsOf 30))=ys[3]?:=hf 3 _ rfl;have h4:DataW.trod enc prog W base spare held m 38 ((L.drop 5).take (prog.cellsOf 38))=ys[4]?:=hf 4 _ rfl;have h5:DataW.trod enc prog W base spare held m 36 ((L.drop 13).take (prog.cellsOf 36))=ys[5]?:=hf 5 _ rfl;have h6:DataW.trod enc prog W base spare held m 38 ((L.drop 14).take (prog.cellsOf 38))=ys[6]?:=hf 6 _ rfl;have h7:DataW.trod enc prog W base spare held m 39 ((L.drop 22).take (prog.cellsOf 39))=ys[7]?:=hf 7 _ rfl;have h8:DataW.trod enc prog W base spare held m 2 ((L.drop 23).take (prog.cellsOf 2))=ys[8]?:=hf 8 _ rfl;have hs:ys.length=9:=hyl;subst hL;simp only[cellsT_bool,cellsT_Source,cellsT_sliceItem,cellsT_sliceJoin,cellsT_sliceOrder,b3t,c2e,b7l,oC,gB,List.take_succ_cons,List.take_zero] at h0 h1 h2 h3 h4 h5 h6 h7 h8;rw[aP aE] at h0 h1 h2 h3 h4 h5 h6 h7 h8;obtain⟨d,e0⟩:=bool_of_trod h0;obtain⟨li,r1,g1⟩:=rows_of_trod (F:=fIt) underlying29 cellsT_Item ae item_of_trod h1;obtain⟨so,e2⟩:=source_of_trod h2;obtain⟨lj,r3,g3⟩:=rows_of_trod (F:=fJo) underlying30 cellsT_Join ae join_of_trod h3;obtain⟨x,sx,e4,r4,g4⟩:=c4u _ _ _ h4;obtain⟨lg,r5,g5⟩:=rows_of_trod (F:=fEx) underlying36 b7l ae c4u h5;obtain⟨z,sz,e6,r6,g6⟩:=c4u _ _ _ h6;obtain⟨lo,r7,g7⟩:=rows_of_trod (F:=fOd) underlying39 cellsT_Order ae order_of_trod h7;obtain⟨lim,e8,_,w8⟩:=DataW.trod_int underlying2 h8;simp only[qD,List.cons.injEq,and_true] at e0 e2 e4 e6 e8;obtain⟨rfl,rfl⟩:=e2;obtain⟨rfl,rfl,rfl,rfl,rfl,rfl,rfl,rfl⟩:=e4;obtain⟨rfl,rfl,rfl,rfl,rfl,rfl,rfl,rfl⟩:=e6;subst e0 e8;exact⟨⟨d,li,so,lj,x,lg,z,lo,lim⟩,_,_,_,_,_,_,rfl,⟨r1,r3,readsL_all r4,e3a r5,readsL_all r6,r7⟩,⟨g1,g3,g4,g5,g6,g7,c8r w8⟩⟩
theorem query_of_trod{b0:Nat}{v:Value}{d:DataW H}{ps:List MemPlace}(hv:Value.okWide prog W .any b0 41 v)(h:DataW.Trod enc prog W base spare held 41 v d ps):∃q,d5o W q v/\GoodQ q:=by
 obtain⟨cs,rfl,hsz⟩:=okWide_struct underlying41 hv;obtain⟨fuel,hf⟩:=h;obtain⟨q,si,sj,sw,sg,sh,so,e,hr,hx⟩:=cells_query hf;refine⟨q,⟨si,sj,sw,sg,sh,so,?_,hr⟩,hx⟩;have e':cs.toList=_:=e;have e2:cs=cs.toList.toArray:=aa;rw[e2,e']
end
end
end Go.Proofs.YtohlomdapelgeaaGreatDoor
