/- Texts WA WB. -/
import Derived.Test.YtohlomdapelgeaaGreatDoorCO
import Derived.Laws.AppendOwnNone
import Derived.Maps.AppendAt
import Derived.Test.YtohlomdapelgeaaGreatDoorCQ
namespace Go.Proofs.YtohlomdapelgeaaGreatDoor
open _root_.Go.Proofs.Tryz
open Go.RowKit
open _root_.Go.Addr renaming add->dY
open _root_.Go.RowKit.Below renaming grown->iL
open _root_.Go.Lib renaming hid->aB
open _root_.List renaming all_eq_true->jA,eq_nil_of_length_eq_zero->lM,getElem?_eq_getElem->aP,getElem?_eq_some_iff->aO,length_append->bD
open _root_.Nat renaming le_refl->aH
open _root_.Option renaming map_some->lX
set_option maxRecDepth 100000
set_option maxHeartbeats 2000000
section
theorem pick_all{α β:Type}{P:Nat->α->β->Prop}:∀(l:List α),(∀j x,l[j]?=some x->∃c,P j x c)->∃ms:List (α×β),ms.map (·.1)=l/\∀j q,ms[j]?=some q->P j q.1 q.2
 |[],_=>⟨[],rfl,fun j q h=>by simp at h⟩
 |x::l,h=>by
  obtain⟨c,hc⟩:=h 0 x rfl;obtain⟨ms,e,hm⟩:=pick_all (P:=fun j=>P (j+1)) l fun j y hy=>h (j+1) y hy;refine⟨(x,c)::ms,by simp[e],fun j q hq=>?_⟩;cases j with
  |zero=>
   obtain rfl:(x,c)=q:=(by simpa using hq);exact hc
  |succ j=>exact hm j q (by simpa using hq)
theorem rowsG_cells{α:Type}{F:Shp α}(hn:0<F.n){p:Nat->Prop}{W:World}{v:Value}{l:List α}(h:RowsG F p W v l):
  ∃ms:List (α×List Value),ms.map (·.1)=l/\(∀q∈ms,F.lies p W q.1 q.2)/\∃a cap,v= .slice a l.length cap/\((a=none/\l=[])\/∃A,a=some A/\∀i u,(rowG ms)[i]?=some u->W.cell? (A.add i)=some u):=by
 obtain⟨a,cap,e,-,hl⟩:=h;obtain⟨ms,hm,hP⟩:=pick_all (P:=fun j x cs=>∃b off,a=some ⟨b,off,none⟩/\d2k W b (off+j * F.n) cs/\F.lies p W x cs) l fun j x hx=>by
  obtain⟨b,off,cs,ea,-,-,hc,hr⟩:=hl j x hx;exact⟨cs,b,off,ea,hc,hr⟩
 refine⟨ms,hm,fun q hq=>?_,a,cap,e,?_⟩
 ·obtain⟨j,hj⟩:=List.getElem?_of_mem hq;obtain⟨_,_,_,_,hr⟩:=hP j q hj;exact hr
 ·cases a with
  |none=>
   refine .inl ⟨rfl,?_⟩;cases l with
   |nil=>rfl
   |cons x l=>
    obtain⟨_,_,_,ea,_⟩:=hl 0 x rfl;cases ea
  |some A=>
   refine .inr ⟨A,rfl,fun i u hu=>?_⟩;have hlen:∀q∈ms,q.2.length=F.n:=fun q hq=>by
    obtain⟨j,hj⟩:=List.getElem?_of_mem hq;obtain⟨_,_,_,_,hr⟩:=hP j q hj;exact F.len hr
   have hi:i<ms.length * F.n:=by
    rw[<-rowG_len hlen];exact(aO.1 hu).1
   have hj:i / F.n<ms.length:=Nat.div_lt_of_lt_mul (by rw[Nat.mul_comm];exact hi);have hr:i % F.n<F.n:=Nat.mod_lt _ hn;have hq:ms[i / F.n]?=some ms[i / F.n]:=aP hj;obtain⟨b,off,ea,hc,-⟩:=hP _ _ hq;have e1:=rowG_at ms hlen _ _ hq _ hr;have e2:i / F.n * F.n+i % F.n=i:=(by rw[Nat.mul_comm];exact Nat.div_add_mod i F.n);rw[e2,hu] at e1;have h3:=hc (i % F.n) u e1.symm;obtain rfl:A=⟨b,off,none⟩:=(by simpa using ea);rw[Nat.add_assoc,e2] at h3;have e:(⟨b,off,none⟩:Addr).add i=⟨b,off+i,none⟩:=(by simp[dY]);rw[e];exact h3
section
variable {P:Program}
theorem append_own_nil{w:World}{ops:Array Oper}{rest:List Oper}{o:Oper}{a:Act}{Q:Exit->Act->World->Prop}(hgd:o.guard=none)(s x:Operand)(t:TypeId)
  (ho:o.op= .call {callee:= .builtin .append,args:= #[s,x],argTypes:= #[t,t]})
  (base:Nat) (e:TypeId) (i:TypeInfo) (size:Nat) (ht:P.underlying t=some (.slice e)) (hi:P.info? e=some i)
  (v:Value) (n:Nat) (xs:List Value) (hs:a.eval s=v) (hown:w.ownsRow base e size v n xs) (c:Nat) (hx:a.eval x= .slice none 0 c)
  (h:wpList P ops Q rest (a.put o.dst v) w):wpList P ops Q (o::rest) a w:=by
 refine wpList_plain hgd fun K hK=>?_;have hrun:(Builtin.append_ #[t,t] o.type #[v,.slice none 0 c]).run P w= .ok v w:=by
  rcases hown.2 with⟨rfl,rfl⟩|⟨g,cap,cur,rfl,_,_,hnc,_⟩
  ·simp[Builtin.append_,run_underlying ht,sizeOf,typeInfo,hi,Builtin.lenOf,Builtin.firstCells]
  ·simp[Builtin.append_,run_underlying ht,sizeOf,typeInfo,hi,Builtin.lenOf,Builtin.firstCells,hnc,storeCells]
 unfold Oper.wp;simp[execOp,ho,resolve,invoke,builtin,hs,hx,hrun,Result.andThen];exact hK _ _ h
theorem wpList_append_rowsG{α:Type}{F:Shp α}{ops:Array Oper}{rest:List Oper}{o:Oper}{a:Act}{w:World}{Q:Exit->Act->World->Prop}(hgd:o.guard=none)(s x:Operand){TS T:TypeId}(ho:o.op= .call {callee:= .builtin .append,args:= #[s,x],argTypes:= #[TS,TS]}){BY:Nat}{Z:Value}
  (hT:(P.info? T).map (fun i=>(i.zero,i.size,i.bytes))=some (some Z,F.n,BY)) (hu:P.underlying TS=some (.slice T)) (hZ:Z.cells.size=F.n) (hN:0<F.n) (hBY:BY<=1000)
  (base:Nat) (v:Value) (l:List (α×List Value)) (hs:a.eval s=v) (hown:w.ownsRow base T F.n v l.length (rowG l)) {p:Nat->Prop} {m:List α} {xv:Value} (hx:a.eval x=xv) (hR:RowsG F p w xv m) (hfew:l.length+m.length<=1000000) (hbase:base<=w.heap.size)
  (h:∀ms v' w',ms.map (·.1)=m->(∀q∈ms,F.lies p w q.1 q.2)->w'.ownsRow base T F.n v' (l++ms).length (rowG (l++ms))->w.grownBy w' v.ownBlock->(v'.ownBlock=v.ownBlock\/v'.ownBlock=some w.heap.size)->wpList P ops Q rest (a.put o.dst v') w'):wpList P ops Q (o::rest) a w:=by
 obtain⟨ms,hm,hms,sa,cap,rfl,hc⟩:=rowsG_cells hN hR;obtain⟨i,hi,hz0,hz1,hz2⟩:∃i,P.info? T=some i/\i.zero=some Z/\i.size=F.n/\i.bytes=BY:=by
  cases hi:P.info? T with
  |none=>rw[hi] at hT;cases hT
  |some i=>
   rw[hi] at hT;simp only[lX,Option.some.injEq,Prod.mk.injEq] at hT;exact⟨i,rfl,hT.1,hT.2.1,hT.2.2⟩
 have hml:ms.length=m.length:=(by rw[<-hm];simp);have hlen:∀q∈ms,q.2.length=F.n:=fun q hq=>F.len (hms q hq);rcases hc with⟨rfl,rfl⟩|⟨A,rfl,hc⟩
 ·obtain rfl:ms=[]:=lM hml;exact append_own_nil hgd s x TS ho base T i F.n hu hi v l.length _ hs hown cap hx (h [] v w rfl (fun q hq=>by cases hq) (by rw[List.append_nil];exact hown) ⟨rfl,rfl,rfl,aH _,fun _ _ _=>rfl⟩ (.inl rfl))
 ·refine wpList_append_own_at _ hgd s x TS ho base T i Z F.n BY hu hi hz0 hz1 hz2 hZ hN v l.length _ hs hown A m.length cap (rowG ms) hx (by rw[rowG_len hlen,hml]) hc (fun u hu=>?_) cG (by
   have:=Nat.mul_le_mul (show l.length+m.length<=1000001 by omega) hBY;omega) hbase fun v' w' h1 h2 _ h3=>h ms v' w' hm hms ?_ h2 h3
  ·obtain⟨q,hq,hv⟩:=List.mem_flatMap.1 hu;exact jA.1 (F.one (hms q hq)) u hv
  ·rw[bD,hml,show rowG (l++ms)=rowG l++rowG ms from List.flatMap_append ..];exact h1
end
end
section
theorem setFull:(prog.info? 63).map (fun i=>(i.zero,i.size,i.bytes))=some (some (.agg #[S [],.int .i64 0,.int .i64 0,.int .i64 0,S [],S [],S [],.int .i64 0,.slice none 0 0]),9,120):=by kernel_rfl
theorem own_St(W:World):(W.alloc (.cells #[] 63)).ownsRow W.heap.size 63 9 (.slice (some ⟨W.heap.size,0,none⟩) 0 0) 0 []:=
 ⟨rfl,.inr ⟨W.heap.size,0,#[],rfl,aH _,aN W _,aH _,by unfold maxLen;omega,rfl,rfl⟩⟩
structure OwnSt(p:Nat->Prop)(base:Nat)(w:World)(v:Value)(l:List St):Prop where
 own:∃ms:List (St×List Value),ms.map (·.1)=l/\(∀q∈ms,gSt.lies p w q.1 q.2)/\w.ownsRow base 63 9 v ms.length (rowG ms)
theorem cloneSet_any{p:Nat->Prop}{l:List St}(hl:l.length<=1000000)(W:World){sv:Value}(h:RowsG gSt p W sv l):
  eg 44 #[sv] W fun e w'=>∃v,e= .returned v/\OwnSt p W.heap.size w' v l/\Bl W w':=by
 have HR:=aB h;obtain⟨a,cap,rfl,h1,h2⟩:=h;cases a with
 |none=>
  have hnil:l=[]:=by
   cases l with
   |nil=>rfl
   |cons x l=>
    obtain⟨_,_,_,e,_⟩:=h2 0 x rfl;cases e
  subst hnil;clear h1 h2;have hcmp:∀w,(binOp BinOp.eql 43 (.slice none 0 cap) (.slice none 0 0)).run prog w= .ok (.bool true) w:=fun _=>by first |rfl|kernel_rfl
  go_enter func44,ntmps44;go_wp2;go_ret;exact⟨_,rfl,⟨⟨[],rfl,fun q hq=>(by cases hq),⟨rfl,.inl ⟨rfl,rfl⟩⟩⟩⟩,Bl.refl W⟩
 |some A=>
  clear h1 h2;have hcmp:∀w,(binOp BinOp.eql 43 (.slice (some A) l.length cap) (.slice none 0 0)).run prog w= .ok (.bool false) w:=fun _=>by first |rfl|kernel_rfl
  have HO:=aB (own_St W);have HB0:=aB ((Bl.refl W).alloc (.cells #[] 63));have HR0:=aB ((HR.o.low (q:=fun b=>p b/\b<W.heap.size) fun b hb hp=>⟨hp,hb⟩).bl HB0.o);go_enter func44,ntmps44;go_wp2_with (at_builtin;refine wpList_append_rowsG rfl (.tmp 5) (.tmp 6) rfl (F:=gSt) setFull underlying43 rfl ae ae W.heap.size _ [] rfl HO.o rfl HR0.o ak aa ?_)
  intro ms v w1 hm hms hown hg hat;have hbl:Bl W w1:=iL HB0.o hg aa (fun j hj=>((own_St W).lt j hj).1);have hms1:∀q∈ms,gSt.lies p w1 q.1 q.2:=fun q hq=>gSt.keep (p:=fun b=>p b/\b<W.heap.size) hg.4 (fun b _ h=>h.1) (fun b h hl=>hg.block b hl (fun e=>by have:=((own_St W).lt b e.symm).1;omega)) (hms q.1 q.2 hq);clear hms hg hat;go_wp2;go_ret;exact⟨_,rfl,⟨⟨ms,hm,hms1,hown⟩⟩,hbl⟩
end
end Go.Proofs.YtohlomdapelgeaaGreatDoor
