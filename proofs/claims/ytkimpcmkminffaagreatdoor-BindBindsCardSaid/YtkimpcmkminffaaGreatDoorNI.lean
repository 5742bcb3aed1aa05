/- Texts BS BA PO BO BT BU Q1 Q2 QA BM BV BW BX. -/
import Derived.Test.YtkimpcmkminffaaGreatDoorNC
import Derived.Test.YtkimpcmkminffaaGreatDoorNA
namespace Go.Proofs.YtkimpcmkminffaaGreatDoor
open Go.RowKit
open _root_.Bool renaming and_eq_true->aQ
open _root_.List renaming all_eq_true->jA,getD_eq_getElem?_getD->lY,getElem?_eq_getElem->aP,length_append->bD,mem_cons->dD,mem_of_getElem?->dJ,mem_singleton->gQ
open _root_.Nat renaming le_refl->aH,lt_of_lt_of_le->gK
open _root_.Go.World renaming block_lt_of_cell?->bB,cell?_of_block->jV
set_option maxRecDepth 100000
section
abbrev Vl:=Int×Int×List UInt8
def ofO(o:Int):Int:=if 1<=o/\o<=5 then 2 else if o=13\/o=14\/o=16 then 1 else if o=15\/o=20 then 2 else 0
def mkO(o:Int):Int:=if 1<=o/\o<=5\/o=15\/o=19\/o=20 then 2 else if o=6 then 0 else 1
def badT(t:Int):Bool:=decide (t<0)||decide (4<t)
def offT(o t:Int):Bool:=(decide (ofO o≠0)&&decide (t≠0)&&decide (t≠ofO o))||((decide (o=6)||decide (o=19))&&(decide (t=1)||decide (t=2)))
def makesO(o:Int)(l:List Int):Int×Int:=
 if ¬(1<=o/\o<=20)\/l.length≠fJ o then(0,2)
 else if l.any badT then(0,2)
 else if l.any (offT o) then(0,120)
 else if(6<=o/\o<=12)/\l.headD 0≠0/\l.getLastD 0≠0/\l.headD 0≠l.getLastD 0 then(0,120)
 else if o=6 then(max (l.headD 0) (l.getLastD 0),0)
 else(mkO o,0)
def fits64(n:Int):Bool:=decide (-9223372036854775808<=n)&&decide (n<=9223372036854775807)
def numV(n:Int):Vl×Int:=if fits64 n then((2,n,[]),0) else((0,0,[]),122)
def wholeO(o a b:Int):Vl×Int:=
 if o=1 then numV (a+b)
 else if o=2 then numV (a-b)
 else if o=3 then numV (a * b)
 else if o=4 then(if b=0 then((0,0,[]),121) else numV (a.tdiv b))
 else if o=5 then(if b=0 then((0,0,[]),121) else numV (a.tmod b))
 else if o=20/\0<=a then((2,a,[]),0)
 else numV (-a)
def truthO(o n:Int):Bool:=if o=7 then n==0 else if o=8 then n != 0 else if o=9 then decide (n<0) else if o=10 then decide (n<=0) else if o=11 then decide (0<n) else decide (0<=n)
def tVl(b:Bool):Vl:=if b then(1,1,[]) else(1,0,[])
def kVl(t:Int):Vl:=if t=0 then(1,0,[]) else if t=1 then(1,1,[]) else(0,0,[])
def okVl(v:Vl):Bool:=chk v.1 v.2.1 v.2.2==0
def ordVl(a b:Vl):Int:=d2h a.1 a.2.1 a.2.2 b.1 b.2.1 b.2.2
def knVl(v:Vl):Int:=d1d v.1 v.2.1 v.2.2
def zVl:Vl:=(0,0,[])
def doO(o:Int)(l:List Vl):Vl×Int:=
 if l.all okVl=false then(zVl,2)
 else if(makesO o (l.map (·.1))).2≠0 then(zVl,(makesO o (l.map (·.1))).2)
 else
  let a:=l.headD zVl
  let b:=l.getLastD zVl
  if o=13 then(kVl (d2d (knVl a) (knVl b)),0)
  else if o=14 then(kVl (or2 (knVl a) (knVl b)),0)
  else if o=17\/o=18 then(tVl (decide (a.1=0)==decide (o=17)),0)
  else if l.any (fun v=>v.1==0) then(zVl,0)
  else if o=16 then(kVl (c9p (knVl a)),0)
  else if o=6 then(if 1000<a.2.2.length+b.2.2.length then(zVl,3) else((a.1,0,a.2.2++b.2.2),0))
  else if o=19 then((2,(a.2.2.length:Int),[]),0)
  else if 7<=o/\o<=12 then(tVl (truthO o (ordVl a b)),0)
  else wholeO o a.2.1 b.2.1
end
section
inductive Bd where
 |mk (k t:Int) (v:Vl) (p o:Int) (n:List UInt8) (args:List Bd)
def Bd.k:Bd->Int| .mk k _ _ _ _ _ _=>k
def Bd.t:Bd->Int| .mk _ t _ _ _ _ _=>t
def Bd.v:Bd->Vl| .mk _ _ v _ _ _ _=>v
def Bd.p:Bd->Int| .mk _ _ _ p _ _ _=>p
def Bd.o:Bd->Int| .mk _ _ _ _ o _ _=>o
def Bd.n:Bd->List UInt8| .mk _ _ _ _ _ n _=>n
def Bd.args:Bd->List Bd| .mk _ _ _ _ _ _ l=>l
instance:Inhabited Bd:=⟨.mk 0 0 zVl 0 0 [] []⟩
mutual
def sumsD:Bd->Bool
 | .mk k _ _ _ _ _ l=>k==5||sumssD l
def sumssD:List Bd->Bool
 |[]=>false
 |x::r=>sumsD x||sumssD r
end
def allT:Bool->Int->List Int->Int×Int
 |_,all,[]=>(all,0)
 |pick,all,t::r=>if pick=true/\t≠0/\all≠0/\t≠all then(all,120) else allT pick (max all t) r
def typeD(k o t:Int)(v:Vl)(n:List UInt8)(l:List Bd):Int×Int:=
 let all:=allT (decide (k=4)) 0 (l.map Bd.t)
 if all.2≠0 then(t,all.2)
 else if k=1 then(v.1,0)
 else if k=3 then makesO o (l.map Bd.t)
 else if k=4 then(all.1,0)
 else if k=5 then
  if n=c1m/\all.1≠0/\all.1≠2 then(t,120)
  else if sumssD l then(t,302)
  else(if n=c1m\/n=gX then 2 else all.1,0)
 else(t,0)
structure Fd where
 tb:List UInt8
 n:List UInt8
 t:Int
deriving DecidableEq
def rightD1(c:Int):Bd->Bool
  | .mk k t v p o n l=>
    (if k=1 then(p==0&&o==0&&n==[])&&okVl v&&l.isEmpty
     else if k=2 then(v==zVl&&o==0&&n==[])&&decide (0<=p)&&decide (p<c)&&decide (1<=t)&&decide (t<=4)&&l.isEmpty
     else if k=3 then v==zVl&&p==0&&n==[]
     else if k=4 then(v==zVl&&p==0&&o==0&&n==[])&& !l.isEmpty
     else if k=5 then(v==zVl&&p==0&&o==0)&&gP.contains n&&(l.length==1||l.isEmpty&&n==gX)
     else false)
def typeOK:Bd->Bool
 | .mk k t v _ o n l=>typeD k o t v n l==(t,0)
mutual
def rightD(c:Int):Bd->Bool
 | .mk k t v p o n l=>rightD1 c (.mk k t v p o n l)&&rightsD c l&&typeOK (.mk k t v p o n l)
def rightsD(c:Int):List Bd->Bool
 |[]=>true
 |x::r=>rightD c x&&rightsD c r
end
def totalV(l:List Vl):Vl×Int:=
 let s:=(l.map fun v=>v.2.1).sum
 if fits64 s then((2,s,[]),0) else(zVl,122)
def bestV(least:Bool)(a b:Vl):Vl:=if least then(if ordVl b a<0 then b else a) else(if 0<ordVl b a then b else a)
def summedV(n:List UInt8)(l:List Vl)(rows args:Nat):Vl×Int:=
 let some:=l.filter fun v=>v.1 != 0
 if n=gX then((2,(if args=0 then rows else some.length:Nat),[]),0)
 else match some with
  |[]=>(zVl,0)
  |a::r=>
   if n=c1m then(if(a::r).any (fun v=>v.1 != 2) then(zVl,120) else totalV (a::r))
   else(r.foldl (bestV (n==c1n)) a,0)
def firstV:List Vl->Vl
 |[]=>zVl
 |v::r=>if v.1≠0 then v else firstV r
mutual
def workD(rows:List (List Vl)):Bd->Vl×Int
 | .mk k _ v p o n l=>
  if k=1 then(v,0)
  else if k=2 then(match rows with |[]=>(zVl,0)|r::_=>(r.getD p.toNat zVl,0))
  else if k=5 then
   let vs:=overD rows l
   if vs.2≠0 then(zVl,vs.2) else summedV n vs.1 rows.length l.length
  else
   let vs:=worksD rows l
   if vs.2≠0 then(zVl,vs.2) else if k=3 then doO o vs.1 else(firstV vs.1,0)
def worksD(rows:List (List Vl)):List Bd->List Vl×Int
 |[]=>([],0)
 |x::r=>
  let y:=workD rows x
  if y.2≠0 then([],y.2)
  else
   let z:=worksD rows r
   if z.2≠0 then([],z.2) else(y.1::z.1,0)
def overD(rows:List (List Vl)):List Bd->List Vl×Int
 |[]=>([],0)
 |x::_=>rows.foldr (fun r acc=>
   let y:=workD [r] x
   if y.2≠0 then([],y.2) else if acc.2≠0 then([],acc.2) else(y.1::acc.1,0)) ([],0)
end
def rowB(r:List Vl):Bool:=r.all okVl
end
section
end
section
theorem best_mem(m:Bool):∀(l:List Vl) (a:Vl),l.foldl (bestV m) a∈a::l
 |[],a=>by simp
 |b::r,a=>by
  have h:=best_mem m r (bestV m a b);rw[List.foldl_cons];rcases dD.1 h with h|h
  ·rw[h];unfold bestV;split<;>split<;>simp
  ·exact List.mem_cons_of_mem _ (List.mem_cons_of_mem _ h)
theorem over_ok(x:Bd)(l:List Bd):∀rows:List (List Vl),(∀r∈rows,(workD [r] x).2=0)->overD rows (x::l)=(rows.map fun r=>(workD [r] x).1,0)
 |[],_=>by simp[overD]
 |r::s,h=>by
  have h0:=h r aa;have ih:=over_ok x l s fun y hy=>h y (List.mem_cons_of_mem _ hy);rw[overD] at ih⊢;rw[List.foldr_cons,ih];simp[h0]
theorem over_bad(x:Bd)(l:List Bd):∀rows:List (List Vl),(∃r∈rows,(workD [r] x).2≠0)->(overD rows (x::l)).2≠0
 |[],h=>by obtain⟨r,hr,_⟩:=h;cases hr
 |r::s,h=>by
  rw[overD,List.foldr_cons];by_cases h0:(workD [r] x).2≠0
  ·simp only[if_pos h0];exact h0
  ·simp only[if_neg h0];have h1:∃y∈s,(workD [y] x).2≠0:=by
    obtain⟨y,hy,hw⟩:=h;rcases dD.1 hy with rfl|hy
    ·exact absurd hw h0
    ·exact⟨y,hy,hw⟩
   have ih:=over_bad x l s h1;rw[overD] at ih;rw[if_pos ih];exact ih
end
section
def wrap64(n:Int):Int:=(n+9223372036854775808) % 18446744073709551616-9223372036854775808
end
section
end
section
structure It where
 star:Bool
 t:List UInt8
 x:Ex
 al:List UInt8
structure So where
 t:List UInt8
 al:List UInt8
structure Jo where
 s:So
 on:Ex
structure Od where
 x:Ex
 down:Bool
structure Qu where
 distinct:Bool
 items:List It
 frm:So
 joins:List Jo
 wher:Ex
 group:List Ex
 having:Ex
 orders:List Od
 limit:Int
inductive d2u (α:Type) where
 |bad (e:Int)
 |good (k:Nat) (x:α)
def d2u.bind{α β:Type}:d2u α->(Nat->α->d2u β)->d2u β
 | .bad e,_=> .bad e
 | .good k x,f=>f k x
end
section
end
section
structure Form(α:Type) where
 n:Nat
 cells:α->Value->List Value
 ex:α->Ex
 len:∀x s,(cells x s).length=n
def fIt:Form It:=⟨11,fun i s=>[.bool i.star,S i.t]++(qD i.x s++[S i.al]),It.x,fun _ _=>rfl⟩
def fJo:Form Jo:=⟨10,fun j s=>[S j.s.t,S j.s.al]++qD j.on s,Jo.on,fun _ _=>rfl⟩
def fOd:Form Od:=⟨9,fun o s=>qD o.x s++[.bool o.down],Od.x,fun _ _=>rfl⟩
section
variable {α:Type} {F:Form α}
def d2k(W:World)(b o:Nat)(cs:List Value):Prop:=∀i v,cs[i]?=some v->W.cell? ⟨b,o+i,none⟩=some v
theorem d2k.keep{W W':World}{b o:Nat}{cs:List Value}(h:d2k W b o cs)(hk:W'.heap[b]?=W.heap[b]?):d2k W' b o cs:=fun i v hv=>by
 rw[jV (w:=W) hk];exact h i v hv
theorem d2k.lt{W:World}{b o:Nat}{cs:List Value}(h:d2k W b o cs)(hc:0<cs.length):b<W.heap.size:=by
 have:=bB _ _ (h 0 cs[0] (aP hc));simpa using this
def d2p(F:Form α)(p:Nat->Prop)(W:World)(sv:Value)(l:List α):Prop:=
 ∃(a:Option Addr) (cap:Nat) (s:Nat->Value),sv= .slice a l.length cap/\∀j x,l[j]?=some x->∃b off,a=some ⟨b,off,none⟩/\p b/\b<W.heap.size/\d2k W b (off+j * F.n) (F.cells x (s j))/\bG p W (s j) (F.ex x).args
theorem d2p.keep{p q:Nat->Prop}{W W':World}(hs:W.heap.size<=W'.heap.size)(hm:∀b,p b->q b)(hk:∀b,p b->b<W.heap.size->W'.heap[b]?=W.heap[b]?){sv:Value}{l:List α}(h:d2p F p W sv l):d2p F q W' sv l:=by
 obtain⟨a,cap,s,e,h⟩:=h;refine⟨a,cap,s,e,fun j x hx=>?_⟩;obtain⟨b,off,ea,hb,hl,hc,hr⟩:=h j x hx;exact⟨b,off,ea,hm b hb,by omega,hc.keep (hk b hb hl),hr.keep hm hk⟩
theorem d2p.bl{p:Nat->Prop}{W W':World}{sv:Value}{l:List α}(h:d2p F p W sv l)(hb:Bl W W'):d2p F p W' sv l:=h.keep hb.size (fun _ h=>h) fun b _ hl=>hb.block b hl
theorem d2p.low{p q:Nat->Prop}{W:World}{sv:Value}{l:List α}(h:d2p F p W sv l)(hm:∀b,p b->q b):d2p F q W sv l:=h.keep (aH _) hm fun _ _ _=>rfl
theorem d2p.grown{p:Nat->Prop}{bs:Nat}{A B:World}{sv:Value}{l:List α}(h:d2p F p A sv l)(hg:A.grownBy B (some bs))(hb:¬p bs):d2p F p B sv l:=
 h.keep hg.4 (fun _ h=>h) fun b hp hl=>hg.block b hl (fun e=>by injection e with e;subst e;exact hb hp)
theorem d2p.nil(p:Nat->Prop)(W:World)(a:Option Addr)(cap:Nat):d2p F p W (.slice a 0 cap) []:=⟨a,cap,fun _=> .slice none 0 0,rfl,fun j x h=>by simp at h⟩
theorem d2p.shape{p:Nat->Prop}{W:World}{sv:Value}{l:List α}(h:d2p F p W sv l):∃a cap,sv= .slice a l.length cap/\∀j,(hj:j<l.length)->∃b off s,a=some ⟨b,off,none⟩/\p b/\b<W.heap.size/\d2k W b (off+j * F.n) (F.cells l[j] s)/\bG p W s (F.ex l[j]).args:=by
 obtain⟨a,cap,s,e,h⟩:=h;refine⟨a,cap,e,fun j hj=>?_⟩;obtain⟨b,off,ea,hb,hl,hc,hr⟩:=h j l[j] (aP hj);exact⟨b,off,s j,ea,hb,hl,hc,hr⟩
end
abbrev QV(q:Qu)(si sj sw sg sh so:Value):Value:=
 .agg #[.bool q.distinct,si,S q.frm.t,S q.frm.al,sj,.int .i64 q.wher.k,.int .i64 q.wher.v.1,.int .i64 q.wher.v.2.1,S q.wher.v.2.2,S q.wher.t,S q.wher.n,.int .i64 q.wher.o,sw,sg,
  .int .i64 q.having.k,.int .i64 q.having.v.1,.int .i64 q.having.v.2.1,S q.having.v.2.2,S q.having.t,S q.having.n,.int .i64 q.having.o,sh,so,.int .i64 q.limit]
structure d2t(p:Nat->Prop)(W:World)(q:Qu)(si sj sw sg sh so:Value):Prop where
 items:d2p fIt p W si q.items
 joins:d2p fJo p W sj q.joins
 wher:bG p W sw q.wher.args
 group:bG p W sg q.group
 having:bG p W sh q.having.args
 orders:d2p fOd p W so q.orders
def d4m(p:Nat->Prop)(W:World)(q:Qu)(v:Value):Prop:=∃si sj sw sg sh so,v=QV q si sj sw sg sh so/\d2t p W q si sj sw sg sh so
theorem d2t.keep{p r:Nat->Prop}{W W':World}(hs:W.heap.size<=W'.heap.size)(hm:∀b,p b->r b)(hk:∀b,p b->b<W.heap.size->W'.heap[b]?=W.heap[b]?){q:Qu}{si sj sw sg sh so:Value}(h:d2t p W q si sj sw sg sh so):d2t r W' q si sj sw sg sh so:=
 ⟨h.items.keep hs hm hk,h.joins.keep hs hm hk,h.wher.keep hm hk,h.group.keep hm hk,h.having.keep hm hk,h.orders.keep hs hm hk⟩
theorem d2t.bl{p:Nat->Prop}{W W':World}{q:Qu}{si sj sw sg sh so:Value}(h:d2t p W q si sj sw sg sh so)(hb:Bl W W'):d2t p W' q si sj sw sg sh so:=h.keep hb.size (fun _ h=>h) fun b _ hl=>hb.block b hl
theorem d4m.bl{p:Nat->Prop}{W W':World}{q:Qu}{v:Value}(h:d4m p W q v)(hb:Bl W W'):d4m p W' q v:=by
 obtain⟨si,sj,sw,sg,sh,so,e,h⟩:=h;exact⟨si,sj,sw,sg,sh,so,e,h.bl hb⟩
theorem d4m.low{p r:Nat->Prop}{W:World}{q:Qu}{v:Value}(h:d4m p W q v)(hm:∀b,p b->r b):d4m r W q v:=by
 obtain⟨si,sj,sw,sg,sh,so,e,h⟩:=h;exact⟨si,sj,sw,sg,sh,so,e,h.keep (aH _) hm fun _ _ _=>rfl⟩
end
section
def cells9(x:Bd)(s:Value):List Value:=[.int .i64 x.k,.int .i64 x.t,.int .i64 x.v.1,.int .i64 x.v.2.1,S x.v.2.2,.int .i64 x.p,.int .i64 x.o,S x.n,s]
abbrev BdV(k t:Int)(v:Vl)(p o:Int)(n:List UInt8)(s:Value):Value:= .agg #[.int .i64 k,.int .i64 t,.int .i64 v.1,.int .i64 v.2.1,S v.2.2,.int .i64 p,.int .i64 o,S n,s]
inductive ReadsDL (p:Nat->Prop) (W:World):Value->List Bd->Prop where
 |mk (a:Option Addr) (cap:Nat) (l:List Bd) (s:Nat->Value) (h1:∀j x,l[j]?=some x->∃b off,a=some ⟨b,off,none⟩/\p b/\b<W.heap.size/\d2k W b (off+j * 9) (cells9 x (s j))) (h2:∀j x,l[j]?=some x->ReadsDL p W (s j) x.args):ReadsDL p W (.slice a l.length cap) l
def ReadsDP(p:Nat->Prop)(W:World)(x:Bd)(v:Value):Prop:=∃s,v=BdV x.k x.t x.v x.p x.o x.n s/\ReadsDL p W s x.args
abbrev ReadsD:World->Bd->Value->Prop:=ReadsDP fun _=>True
theorem ReadsDL.keep{p r:Nat->Prop}{W W':World}(hs:W.heap.size<=W'.heap.size)(hm:∀b,p b->r b)(hk:∀b,p b->b<W.heap.size->W'.heap[b]?=W.heap[b]?){sv:Value}{l:List Bd}(h:ReadsDL p W sv l):ReadsDL r W' sv l:=by
 induction h with
 |mk a cap l s h1 _ ih=>
  refine .mk a cap l s (fun j x hx=>?_) ih;obtain⟨b,off,e,hp,hb,hc⟩:=h1 j x hx;exact⟨b,off,e,hm b hp,gK hb hs,hc.keep (hk b hp hb)⟩
theorem ReadsDL.bl{p:Nat->Prop}{W W':World}(hb:Bl W W'){sv:Value}{l:List Bd}(h:ReadsDL p W sv l):ReadsDL p W' sv l:=h.keep hb.size (fun _ h=>h) fun b _ hl=>hb.block b hl
theorem ReadsDP.bl{p:Nat->Prop}{W W':World}{x:Bd}{v:Value}(h:ReadsDP p W x v)(hb:Bl W W'):ReadsDP p W' x v:=by
 obtain⟨s,e,h⟩:=h;exact⟨s,e,h.bl hb⟩
theorem ReadsDP.any{p:Nat->Prop}{W:World}{x:Bd}{v:Value}(h:ReadsDP p W x v):ReadsD W x v:=by
 obtain⟨s,e,h⟩:=h;exact⟨s,e,h.keep (aH _) (fun _ _=>trivial) fun _ _ _=>rfl⟩
theorem ReadsDL.nil(p:Nat->Prop)(W:World)(a:Option Addr)(cap:Nat):ReadsDL p W (.slice a 0 cap) []:= .mk a cap [] (fun _=> .slice none 0 0) (fun j x h=>by simp at h) (fun j x h=>by simp at h)
theorem ReadsDL.shape{p:Nat->Prop}{W:World}{sv:Value}{l:List Bd}(h:ReadsDL p W sv l):∃a cap,sv= .slice a l.length cap/\∀j,(h:j<l.length)->∃b off s,a=some ⟨b,off,none⟩/\p b/\b<W.heap.size/\d2k W b (off+j * 9) (cells9 l[j] s)/\ReadsDL p W s l[j].args:=by
 cases h with
 |mk a cap l s h1 h2=>
  refine⟨a,cap,rfl,fun j hj=>?_⟩;have hx:l[j]?=some l[j]:=aP hj;obtain⟨b,off,e,hp,hb,hc⟩:=h1 j _ hx;exact⟨b,off,s j,e,hp,hb,hc,h2 j _ hx⟩
theorem ReadsDP.args{p:Nat->Prop}{W:World}{x:Bd}{v:Value}(h:ReadsDP p W x v):∃a cap,v=BdV x.k x.t x.v x.p x.o x.n (.slice a x.args.length cap):=by
 obtain⟨s,e,h⟩:=h;obtain⟨a,cap,rfl,-⟩:=h.shape;exact⟨a,cap,e⟩
def cells3(v:Vl):List Value:=[.int .i64 v.1,.int .i64 v.2.1,S v.2.2]
def ReadsVl(p:Nat->Prop)(W:World)(sv:Value)(l:List Vl):Prop:=∃a cap,sv= .slice a l.length cap/\∀j v,l[j]?=some v->∃b off,a=some ⟨b,off,none⟩/\p b/\b<W.heap.size/\d2k W b (off+j * 3) (cells3 v)
theorem ReadsVl.keep{p r:Nat->Prop}{W W':World}(hs:W.heap.size<=W'.heap.size)(hm:∀b,p b->r b)(hk:∀b,p b->b<W.heap.size->W'.heap[b]?=W.heap[b]?){sv:Value}{l:List Vl}(h:ReadsVl p W sv l):ReadsVl r W' sv l:=by
 obtain⟨a,cap,e,h⟩:=h;refine⟨a,cap,e,fun j v hv=>?_⟩;obtain⟨b,off,e,hp,hb,hc⟩:=h j v hv;exact⟨b,off,e,hm b hp,gK hb hs,hc.keep (hk b hp hb)⟩
theorem ReadsVl.bl{p:Nat->Prop}{W W':World}{sv:Value}{l:List Vl}(h:ReadsVl p W sv l)(hb:Bl W W'):ReadsVl p W' sv l:=h.keep hb.size (fun _ h=>h) fun b _ hl=>hb.block b hl
def ReadsRw(p:Nat->Prop)(W:World)(sv:Value)(l:List (List Vl)):Prop:=∃a cap,sv= .slice a l.length cap/\∀j r,l[j]?=some r->∃b off s,a=some ⟨b,off,none⟩/\p b/\b<W.heap.size/\W.cell? ⟨b,off+j,none⟩=some s/\ReadsVl p W s r
theorem ReadsRw.bl{p:Nat->Prop}{W W':World}{sv:Value}{l:List (List Vl)}(h:ReadsRw p W sv l)(hb:Bl W W'):ReadsRw p W' sv l:=by
 obtain⟨a,cap,e,h⟩:=h;refine⟨a,cap,e,fun j r hr=>?_⟩;obtain⟨b,off,s,e,hp,hl,hc,hv⟩:=h j r hr;exact⟨b,off,s,e,hp,gK hl hb.size,by rw[jV (w:=W) (hb.block b hl)];exact hc,hv.bl hb⟩
def cellsF(f:Fd):List Value:=[S f.tb,S f.n,.int .i64 f.t]
def ReadsFd(p:Nat->Prop)(W:World)(sv:Value)(l:List Fd):Prop:=∃a cap,sv= .slice a l.length cap/\∀j f,l[j]?=some f->∃b off,a=some ⟨b,off,none⟩/\p b/\b<W.heap.size/\d2k W b (off+j * 3) (cellsF f)
theorem ReadsFd.bl{p:Nat->Prop}{W W':World}{sv:Value}{l:List Fd}(h:ReadsFd p W sv l)(hb:Bl W W'):ReadsFd p W' sv l:=by
 obtain⟨a,cap,e,h⟩:=h;refine⟨a,cap,e,fun j f hf=>?_⟩;obtain⟨b,off,e,hp,hl,hc⟩:=h j f hf;exact⟨b,off,e,hp,gK hl hb.size,hc.keep (hb.block b hl)⟩
end
section
end
section
theorem okVl_iff{v:Vl}:okVl v=true↔chk v.1 v.2.1 v.2.2=0:=by unfold okVl;simp
theorem ok_int{n:Int}:okVl (2,n,[])=true:=by rw[okVl_iff];simp[chk]
theorem ok_zero:okVl zVl=true:=by rw[okVl_iff];simp[chk,zVl]
theorem ok_tVl(b:Bool):okVl (tVl b)=true:=by cases b<;>(rw[okVl_iff];simp[chk,tVl])
theorem ok_kVl(t:Int):okVl (kVl t)=true:=by
 unfold kVl;split
 ·rw[okVl_iff];simp[chk]
 ·split
  ·rw[okVl_iff];simp[chk]
  ·exact ok_zero
theorem ok_numV{n:Int}{v:Vl}(h:numV n=(v,0)):okVl v=true:=by
 unfold numV at h;split at h
 ·injection h with h _;subst h;exact ok_int
 ·injection h with _ h;cases h
theorem ok_wholeO{o a b:Int}{v:Vl}(h:wholeO o a b=(v,0)):okVl v=true:=by
 unfold wholeO at h
 repeat' split at h
 all_goals first
  |exact ok_numV h
  |(injection h with h1 h2;subst h1;exact ok_int)
  |(injection h with h1 h2;cases h2)
theorem kind_of{v:Vl}(h:okVl v=true):0<=v.1/\v.1<=4:=by
 rw[okVl_iff] at h;unfold chk at h;split at h
 ·cases h
 ·split at h
  ·rename_i h2;omega
  ·cases h
theorem ok_text{k:Int}{l:List UInt8}(hk:k=3\/k=4)(hl:l.length<=1000):okVl (k,0,l)=true:=by
 rw[okVl_iff];unfold chk;rw[if_neg (show ¬1000<l.length by omega),if_pos];rcases hk with rfl|rfl<;>simp
theorem all_mem{l:List Vl}(h:l.all okVl=true){v:Vl}(hv:v∈l):okVl v=true:=jA.1 h v hv
theorem head_ok{l:List Vl}(h:l.all okVl=true):okVl (l.headD zVl)=true:=by
 cases l with
 |nil=>exact ok_zero
 |cons a r=>exact all_mem h aa
theorem makes_types{o:Int}{l:List Int}{t:Int}(h:makesO o l=(t,0)):(1<=o/\o<=20)/\l.length=fJ o/\(∀x∈l,badT x=false)/\∀x∈l,offT o x=false:=by
 unfold makesO at h;split at h
 ·injection h with _ h;cases h
 ·rename_i h1;split at h
  ·injection h with _ h;cases h
  ·rename_i h2;split at h
   ·injection h with _ h;cases h
   ·rename_i h3;refine⟨by omega,by omega,fun x hx=>?_,fun x hx=>?_⟩
    ·cases hb:badT x
     ·rfl
     ·exact absurd (List.any_eq_true.2 ⟨x,hx,hb⟩) h2
    ·cases hb:offT o x
     ·rfl
     ·exact absurd (List.any_eq_true.2 ⟨x,hx,hb⟩) h3
theorem ok_doO{o:Int}{l:List Vl}{v:Vl}(h:doO o l=(v,0)):okVl v=true:=by
 unfold doO at h;split at h
 ·injection h with _ h;cases h
 ·rename_i ha;have ha':l.all okVl=true:=(by simpa using ha);split at h
  ·rename_i hm;injection h with _ h;exact absurd h hm
  ·rename_i hm;have hm':(makesO o (l.map (·.1))).2=0:=ai;have hmk:makesO o (l.map (·.1))=((makesO o (l.map (·.1))).1,0):=(by rw[<-hm']);obtain⟨ho,hlen,-,hoff⟩:=makes_types hmk;simp only at h;split at h
   ·injection h with h _;subst h;exact ok_kVl _
   ·split at h
    ·injection h with h _;subst h;exact ok_kVl _
    ·split at h
     ·injection h with h _;subst h;exact ok_tVl _
     ·split at h
      ·injection h with h _;subst h;exact ok_zero
      ·rename_i hnull;split at h
       ·injection h with h _;subst h;exact ok_kVl _
       ·split at h
        ·rename_i h6;split at h
         ·injection h with _ h;cases h
         ·rename_i hlen2;injection h with h _;subst h;subst h6;have hl2:l.length=2:=by
           have:fJ 6=2:=af;rw[this] at hlen;simpa using hlen
          have hmem:l.headD zVl∈l:=by
           cases l with
           |nil=>simp at hl2
           |cons a r=>simp
          have hk:=kind_of (head_ok ha');have h0:(l.headD zVl).1≠0:=fun e=>hnull (List.any_eq_true.2 ⟨_,hmem,by simpa using e⟩);have hf:=hoff _ (List.mem_map_of_mem (f:=(·.1)) hmem);have h12:¬(l.headD zVl).1=1/\¬(l.headD zVl).1=2:=by
           unfold offT at hf;rw[Bool.or_eq_false_iff] at hf;have h:=hf.2;simpa using h
          refine ok_text aE (by rw[bD];omega)
        ·split at h
         ·injection h with h _;subst h;exact ok_int
         ·split at h
          ·injection h with h _;subst h;exact ok_tVl _
          ·exact ok_wholeO h
end
section
theorem ok_best(m:Bool):∀(l:List Vl) (a:Vl),(∀v∈a::l,okVl v=true)->okVl (l.foldl (bestV m) a)=true:=fun l a h=>h _ (best_mem m l a)
theorem ok_summed{n:List UInt8}{l:List Vl}{rows args:Nat}{v:Vl}(hl:∀x∈l,okVl x=true)(h:summedV n l rows args=(v,0)):okVl v=true:=by
 unfold summedV at h;simp only at h;split at h
 ·injection h with h _;subst h;exact ok_int
 ·split at h
  ·injection h with h _;subst h;exact ok_zero
  ·rename_i a r he;have hs:∀x∈a::r,okVl x=true:=fun x hx=>hl x (List.mem_filter.1 (show x∈l.filter fun v=>v.1 != 0 by rw[he];exact hx)).1;split at h
   ·split at h
    ·injection h with _ h;cases h
    ·unfold totalV at h;simp only at h;split at h
     ·injection h with h _;subst h;exact ok_int
     ·injection h with _ h;cases h
   ·injection h with h _;subst h;exact ok_best _ r a hs
theorem ok_first:∀l:List Vl,(∀x∈l,okVl x=true)->okVl (firstV l)=true
 |[],_=>ok_zero
 |v::r,h=>by
  unfold firstV;split
  ·exact h v aa
  ·exact ok_first r fun x hx=>h x (List.mem_cons_of_mem _ hx)
theorem getD_ok{r:List Vl}(h:rowB r=true)(i:Nat):okVl (r.getD i zVl)=true:=by
 rw[lY];cases hi:r[i]? with
 |none=>exact ok_zero
 |some v=>exact jA.1 h v (dJ hi)
theorem right_val{c:Int}{k t:Int}{v:Vl}{p o:Int}{n:List UInt8}{l:List Bd}(h:rightD c (.mk k t v p o n l)=true):rightD1 c (.mk k t v p o n l)=true/\rightsD c l=true/\typeOK (.mk k t v p o n l)=true:=by
 simp only[rightD,aQ] at h;exact⟨h.1.1,h.1.2,h.2⟩
mutual
theorem work_ok(c:Int):∀(b:Bd) (rows:List (List Vl)),(∀r∈rows,rowB r=true)->rightD c b=true->(workD rows b).2=0->okVl (workD rows b).1=true
 | .mk k t v p o n l,rows,hr,h,h0=>by
  obtain⟨h1,h2,-⟩:=right_val h;have ih1:=works_ok c l rows hr h2;have ih2:=over_okv c l rows hr h2;rw[workD.eq_def] at h0⊢;simp only at h0⊢;split
  ·rename_i hk;subst hk;unfold rightD1 at h1;simp only[if_true,aQ] at h1;exact h1.1.2
  ·rename_i hk;rw[if_neg hk] at h0;split
   ·cases rows with
    |nil=>exact ok_zero
    |cons r s=>exact getD_ok (hr r aa) _
   ·rename_i hk2;rw[if_neg hk2] at h0;split
    ·rename_i hk5;rw[if_pos hk5] at h0;split
     ·exact ok_zero
     ·rename_i he;rw[if_neg he] at h0;exact ok_summed (v:=(summedV n (overD rows l).1 rows.length l.length).1) (ih2 (by simpa using he)) (by rw[<-h0])
    ·rename_i hk5;rw[if_neg hk5] at h0;split
     ·exact ok_zero
     ·rename_i he;rw[if_neg he] at h0;have hw:=ih1 (by simpa using he);split
      ·rename_i hk3;rw[if_pos hk3] at h0;exact ok_doO (v:=(doO o (worksD rows l).1).1) (by rw[<-h0])
      ·exact ok_first _ hw
theorem works_ok(c:Int):∀(l:List Bd) (rows:List (List Vl)),(∀r∈rows,rowB r=true)->rightsD c l=true->(worksD rows l).2=0->∀x∈(worksD rows l).1,okVl x=true
 |[],rows,_,_,_=>by simp[worksD]
 |b::l,rows,hr,h,h0=>by
  simp only[rightsD,aQ] at h;have ih1:=work_ok c b rows hr h.1;have ih2:=works_ok c l rows hr h.2;rw[worksD.eq_def] at h0⊢;simp only at h0⊢;split
  ·simp
  ·rename_i he;rw[if_neg he] at h0;split
   ·simp
   ·rename_i he2;intro x hx;rcases dD.1 hx with rfl|hx
    ·exact ih1 (by simpa using he)
    ·exact ih2 (by simpa using he2) x hx
theorem over_okv(c:Int):∀(l:List Bd) (rows:List (List Vl)),(∀r∈rows,rowB r=true)->rightsD c l=true->(overD rows l).2=0->∀x∈(overD rows l).1,okVl x=true
 |[],rows,_,_,_=>by simp[overD]
 |b::l,rows,hr,h,h0=>by
  simp only[rightsD,aQ] at h;have ih1:=fun r hr=>work_ok c b [r] hr h.1;by_cases hb:∃r∈rows,(workD [r] b).2≠0
  ·exact absurd h0 (over_bad b l rows hb)
  ·have hall:∀r∈rows,(workD [r] b).2=0:=fun r hr=>by
    by_cases e:(workD [r] b).2=0
    ·exact e
    ·exact absurd ⟨r,hr,e⟩ hb
   rw[over_ok b l rows hall];intro x hx;obtain⟨r,hm,rfl⟩:=List.mem_map.1 hx;exact ih1 r (fun y hy=>by rw[gQ.1 hy];exact hr r hm) (hall r hm)
end
end
end Go.Proofs.YtkimpcmkminffaaGreatDoor
