/- Texts QK QO Q7 QS QT Q8 QZ. -/
import Derived.Test.YtfkekkgfmhcanaaGreatDoorTG
import Derived.Test.YtfkekkgfmhcanaaGreatDoorTI
import Derived.Test.YtfkekkgfmhcanaaGreatDoorTE
namespace Go.Proofs.YtfkekkgfmhcanaaGreatDoor
open _root_.Go.Proofs.Tryz
open Go.RowKit
open _root_.Go.Act renaming put->aK
open _root_.And renaming intro->bT
open _root_.Array renaming getElem?_eq_some_iff->aC
open _root_.Go.RowKit.Below renaming grown->iL
open _root_.Bool renaming and_eq_true->aQ,false_eq_true->fM
open _root_.Go.Ending renaming returned->bQ
open _root_.Go.Lib renaming cell_of_heap->aG,frozen_of_heap->aJ,hid->aB,itoa->dQ
open _root_.List renaming all_eq_true->jA,getElem?_eq_getElem->aP,getElem_mem->dS,length_append->bD,length_cons->aX,map_append->kW,mem_append->iX,mem_of_getElem?->dJ,mem_singleton->gQ,nil_append->cB,setIfInBounds_toArray->aA,set_cons_succ->aF,set_cons_zero->aD,take_add_one->dN
open _root_.Nat renaming le_refl->aH,le_trans->jH,zero_le->dL
open NoPanic renaming normal->bF
open _root_.Option renaming getD_some->oQ,map_some->lX
open _root_.Go.Value renaming ownBlock->iB
open _root_.Go.World renaming ownsRow_nil->d2l,size_alloc->aR
set_option maxRecDepth 100000
set_option maxHeartbeats 16000000
section
theorem d3a{W:World}{sv:Value}{l:List (List UInt8)}(h:sW W sv l)(hm:l.length<=1000000)(hlen:(jR [32] l).length<=100000000):fb 37 #[sv] W fun e w'=>e= .returned (S (jR [32] l))/\Bl W w':=by
 have HJ:=aB (b0j h [32] hm hlen);obtain⟨b,cap,rfl,-⟩:=h;generalize jR [32] l=jl at *;clear hlen;go_enter func37,ntmps37;go_wp2_with fail;refine HJ.o.mono ?_;rintro e w1 ⟨rfl,hb⟩;go_wp2;go_ret;exact⟨rfl,hb⟩
theorem d5r{W:World}{sv:Value}{l:List (List UInt8)}(h:sW W sv l)(hm:l.length<=1000000)(hlen:(jR [44,32] l).length<=100000000):fb 66 #[sv] W fun e w'=>e= .returned (S (jR [44,32] l))/\Bl W w':=by
 have HJ:=aB (b0j h [44,32] hm hlen);obtain⟨b,cap,rfl,-⟩:=h;generalize jR [44,32] l=jl at *;clear hlen;go_enter func66,ntmps66;go_wp2_with fail;refine HJ.o.mono ?_;rintro e w1 ⟨rfl,hb⟩;go_wp2;go_ret;exact⟨rfl,hb⟩
theorem e0v(s al:List UInt8)(hlen:(d4t s al).length<=100000000)(W:World):fb 93 #[S s,S al] W fun e w'=>e= .returned (S (d4t s al))/\Bl W w':=by
 by_cases h0:al=[]
 ·subst h0;have e0:d4t s []=s:=(by unfold d4t;rw[if_pos rfl]);rw[e0];go_enter func93,ntmps93;go_wp2;go_ret;exact⟨rfl,Bl.refl _⟩
 have hb0:(al==[])=false:=ay;have HE:=aB (show d4t s al=jR [32] [s,wAs,al] from by rw[e2j,if_neg h0]);rw[HE.o] at hlen⊢;clear h0;go_enter func93,ntmps93;go_wp2_with fail;refine(d3a (wO W [s,wAs,al] _ _ rfl _ _ rfl rfl) aa hlen).mono ?_;rintro e w1 ⟨rfl,hb⟩;go_wp2;go_ret;exact⟨rfl,((Bl.refl _).alloc _).call hb⟩
theorem e0u(s:So)(hlen:(d4g s).length<=100000000)(W:World):fb 92 #[.agg #[S s.t,S s.al]] W fun e w'=>e= .returned (S (d4g s))/\Bl W w':=by
 obtain⟨t,al⟩:=s;show fb 92 #[.agg #[S t,S al]] W fun e w'=>e= .returned (S (d4t t al))/\Bl W w';have HA:=aB (fun W=>e0v t al hlen W);clear hlen;go_enter func92,ntmps92;go_wp2_with fail;refine(HA.o _).mono ?_;rintro e w1 ⟨rfl,hb⟩;go_wp2;go_ret;exact⟨rfl,((Bl.refl _).alloc _).call hb⟩
theorem d5b{P:Program}{T kt et:TypeId}(hT:P.underlying T=some (.map kt et))(hK:P.underlying kt=some .bool)(w:World)(es:Array MapEntry)(clock:Nat)(n:Bool)(v:Value)
  (h:Instr.findNow .bool (.bool n) es.toList 0=some none):
  (Instr.mapUpdate T (.map (some w.heap.size)) (.bool n) v).run P (w.alloc (.map es clock))= .ok () (w.alloc (.map (es.push {key:= .bool n,val:=v,born:=clock}) (clock+1))):=by
 have hb:(w.alloc (.map es clock)).heap[w.heap.size]?=some (.map es clock):=(by show(w.heap.push _)[w.heap.size]?=_;simp);have h1:=MapKept.run_getObj_map (P:=P) hb;have h2:=MapKept.run_checkKey (P:=P) (w:=w.alloc (.map es clock)) (k:= .bool n) hK (by trivial) false 9999;have h3:=MapKept.run_findKey (P:=P) (w:=w.alloc (.map es clock)) hK h;have h4:=MapKept.run_setObj_map (P:=P) (.map (es.push {key:= .bool n,val:=v,born:=clock}) (clock+1)) hb;have h5:({(w.alloc (.map es clock)) with heap:=(w.alloc (.map es clock)).heap.setIfInBounds w.heap.size (.map (es.push {key:= .bool n,val:=v,born:=clock}) (clock+1))}:World)=w.alloc (.map (es.push {key:= .bool n,val:=v,born:=clock}) (clock+1)):=by
  have e:(w.heap.push (Obj.map es clock)).setIfInBounds w.heap.size (.map (es.push {key:= .bool n,val:=v,born:=clock}) (clock+1))=w.heap.push (.map (es.push {key:= .bool n,val:=v,born:=clock}) (clock+1)):=by
   apply Array.ext_getElem?;intro i;rw[Array.getElem?_setIfInBounds,Array.getElem?_push,Array.getElem?_push];by_cases h:w.heap.size=i
   ·subst h;simp
   ·simp[h,Ne.symm h]
  show({w with heap:=_}:World)={w with heap:=_}
  exact congrArg (fun h=>({w with heap:=h}:World)) e
 simp only[Instr.mapUpdate,Sem.run_bind,run_underlying hT,Result.andThen,h1,h2,h3];rw[h4,h5]
theorem d5a{P:Program}{T kt et:TypeId}(hT:P.underlying T=some (.map kt et))(hK:P.underlying kt=some .bool){w:World}{r:Nat}{es:Array MapEntry}{clock:Nat}(hb:w.heap[r]?=some (.map es clock)){n:Bool}{i:Nat}{v:Value}
  (h:Instr.findNow .bool (.bool n) es.toList 0=some (some (i,v))):
  (Instr.lookup T (.map (some r)) (.bool n) false).run P w= .ok v w:=by
 have h1:=MapKept.run_getObj_map (P:=P) hb;have h2:=MapKept.run_checkKey (P:=P) (w:=w) (k:= .bool n) hK (by trivial) es.isEmpty 9999;have h3:=MapKept.run_findKey (P:=P) (w:=w) hK h;simp[Instr.lookup,Sem.run_bind,run_underlying hT,Result.andThen,h1,h2,h3]
abbrev bEnt(n:Bool)(f:FuncId)(p:Nat)(b:Nat):MapEntry:={key:= .bool n,val:= .func (.func f) #[] #[.pointer (some ⟨p,0,none⟩)],born:=b}
theorem e7i(w:World)(p:Nat):(Instr.mapUpdate 174 (.map (some w.heap.size)) (.bool true) (.func (.func 137) #[] #[.pointer (some ⟨p,0,none⟩)])).run prog (w.alloc (.map #[] 0))= .ok () (w.alloc (.map #[bEnt true 137 p 0] 1)):=
 d5b underlying174 underlying4 w #[] 0 true _ rfl
theorem e7h(w:World)(p:Nat):(Instr.mapUpdate 174 (.map (some w.heap.size)) (.bool false) (.func (.func 139) #[] #[.pointer (some ⟨p,0,none⟩)])).run prog (w.alloc (.map #[bEnt true 137 p 0] 1))= .ok () (w.alloc (.map #[bEnt true 137 p 0,bEnt false 139 p 1] 2)):=
 d5b underlying174 underlying4 w #[bEnt true 137 p 0] 1 false _ rfl
theorem e7g(w:World)(p:Nat)(r:Nat)(hb:w.heap[r]?=some (.map #[bEnt true 137 p 0,bEnt false 139 p 1] 2))(n:Bool):
  (Instr.lookup 174 (.map (some r)) (.bool n) false).run prog w= .ok (.func (.func (if n=true then 137 else 139)) #[] #[.pointer (some ⟨p,0,none⟩)]) w:=by
 cases n
 ·exact d5a underlying174 underlying4 hb (i:=1) rfl
 ·exact d5a underlying174 underlying4 hb (i:=0) rfl
theorem d7s{b:Nat}{st:Bool}{t:List UInt8}{k v1 v2:Int}{v3 xt xn:List UInt8}{o:Int}{a:Value}{al:List UInt8}(ht:t=[]\/mO t=true)(hlt:t.length<=10000){W:World}(hX:W.heap[b]?=some (.cells (e6e st t k v1 v2 v3 xt xn o a al).toArray 91 (0,0))):
  fb 137 #[.pointer (some ⟨b,0,none⟩)] W fun e w'=>e= .returned (S (if t=[] then[42] else t++[46,42]))/\Bl W w':=by
 obtain⟨u,hu⟩:∃u,u=if t=[] then[42] else t++[46,42]:=⟨_,rfl⟩
 have H:=aB ((b8s (n:=[42]) ht).trans (by rw[hu];simp:(if t=[] then[42] else t++[46]++[42])=u));rw[<-hu];have c1:W.cell? ⟨b,1,none⟩=some (S t):=(d3y hX).2.1;clear ht hu hX;have e1:((⟨t.toArray⟩:ByteArray)++⟨#[46,42]⟩).data.toList=t++[46]++[42]:=aa;have HJ:Hid (∀w,fb 138 #[.string ((⟨t.toArray⟩:ByteArray)++⟨#[46,42]⟩),.string ⟨#[46]⟩] w fun e w'=>e= .returned (S u)/\w'=w):=fun w=>by
  refine(Tryz.strings_TrimPrefix _ _ _).mono ?_;rintro e w1 ⟨rfl,rfl⟩;rw[e1];exact⟨congrArg (fun l:List UInt8=>bQ (S l)) H.o,rfl⟩
 clear e1 H;go_enter func137,ntmps137;go_wp2_with fail;refine(HJ.o _).mono ?_;rintro e w1 ⟨rfl,rfl⟩;go_wp2;go_ret;exact⟨rfl,Bl.refl _⟩
theorem d7r{b:Nat}{st:Bool}{t:List UInt8}{k v1 v2:Int}{v3 xt xn:List UInt8}{o:Int}{a:Option Addr}{args:List Ex}{c:Nat}{al:List UInt8}(hx:e0m (.mk k (v1,v2,v3) xt xn o args))(hC:eH (.mk k (v1,v2,v3) xt xn o args)=true)
  (hl:(d4t (eY (.mk k (v1,v2,v3) xt xn o args)) al).length<=100000000) {W:World} (hR:gU W (.slice a args.length c) args) (hG:nD W) (hX:W.heap[b]?=some (.cells (e6e st t k v1 v2 v3 xt xn o (.slice a args.length c) al).toArray 91 (0,0))):
  fb 139 #[.pointer (some ⟨b,0,none⟩)] W fun e w'=>e= .returned (S (d4t (eY (.mk k (v1,v2,v3) xt xn o args)) al))/\Bl W w':=by
 have HT:Hid (∀w,Bl W w->fb 100 #[EV k (v1,v2,v3) xt xn o (.slice a args.length c)] w fun e w'=>e= .returned (S (eY (.mk k (v1,v2,v3) xt xn o args)))/\Bl w w'):=fun w hb=>d7h hx hC w _ ⟨_,rfl,hR.bl hb⟩ (hG.bl hb);have HA:=aB (fun W=>e0v _ al hl W);have HX:=aB hX;clear hx hC hl hR hG hX;generalize eY (.mk k (v1,v2,v3) xt xn o args)=u at *;generalize args.length=m at *;go_enter func139,ntmps139;go_wp2_with fail;refine wp_region_noPanic (bM (fun B=>B.heap[b]?=some (.cells (e6e st t k v1 v2 v3 xt xn o (.slice a m c) al).toArray 91 (0,0))) ((.take 0 (.take 1 (.take 3 (.take 4 (.one 2 (.one 5 (.take 6 .done)))))))) ae ae ae (fun _ _ _ _ _ h=>h) (HX.o) ?_);intro wd HWD hY;iterate 4 (refine aI rfl ab (by intro w hSw;(try dsimp only at hSw);obtain⟨c0,c1,c2,c3,c4,c5,c6,c7,c8,c9,c10⟩:=d3y hSw;go_simp;(try(first |with_reducible rfl|rfl))) ?_;(try simp only[aK,aA,aD,aF]))
 refine aL rfl (fun K hK=>?_);go_simp;(refine(HT.o _ HWD.o).mono ?_;rintro e w3 ⟨rfl,hb3⟩;have hb:=hb3);go_wp2_with fail;refine hK.o _ _ (((hb.block _ (aC.1 hY).1).trans hY)) ?_;clear hY hK K;intro hY;clear hb;refine aL rfl (fun K hK=>?_);go_simp;(refine(HA.o _).mono ?_;rintro e w4 ⟨rfl,hb4⟩;have hb:=hb4);go_wp2_with fail;refine hK.o _ _ (((hb.block _ (aC.1 hY).1).trans hY)) ?_;clear hY hK K;intro hY;clear hb;refine aI rfl ab (by intro w hSw;(try dsimp only at hSw);obtain⟨c0,c1,c2,c3,c4,c5,c6,c7,c8,c9,c10⟩:=d3y hSw;go_simp;(try(first |with_reducible rfl|rfl))) ?_;(try simp only[aK,aA,aD,aF])
 refine fO (bF ?_);go_wp2;go_ret;exact⟨rfl,(Bl.call HWD.o hb3).call hb4⟩
end
section
theorem d6v(args:Array Value)(w:World):(callFunc 68 args).run prog w= .ok (.enter 68 args) w:=by simp[go_sem]
theorem d9q(args:Array Value)(w:World):(callFunc 100 args).run prog w= .ok (.enter 100 args) w:=by simp[go_sem]
theorem d9s(args:Array Value)(w:World):(callFunc 99 args).run prog w= .ok (.enter 99 args) w:=by simp[go_sem]
theorem d9r(args:Array Value)(w:World):(callFunc 107 args).run prog w= .ok (.enter 107 args) w:=by simp[go_sem]
theorem e3t{t al:List UInt8}{x:Ex}(h:d3r ⟨true,t,x,al⟩=true):t=[]\/mO t=true:=by
 unfold d3r at h;simp only[if_pos,aQ] at h;have h3:d3c t=true:=h.2;unfold d3c at h3;simpa using h3
theorem e6s{t al:List UInt8}{x:Ex}(h:d3r ⟨false,t,x,al⟩=true):eH x=true:=by
 unfold d3r at h;rw[if_neg aa] at h;simp only[aQ] at h;exact h.1.2
theorem d8r{i:It}(hi:d3r i=true)(hok:e7f i)(hl:(d5x i).length<=100000000){p:Nat->Prop}{W:World}{s:Value}(hr:bG p W s i.x.args)(hG:nD W):fb 68 #[.agg (fIt.cells i s).toArray] W fun e w'=>e= .returned (S (d5x i))/\Bl W w':=by
 obtain⟨a,c,rfl⟩:=hr.shape;obtain⟨st,t,⟨k,⟨v1,v2,v3⟩,xt,xn,o,args⟩,al⟩:=i;have hR:gU W (.slice a args.length c) args:=hr.reads;have hX:=aN W (.cells #[.bool st,S t,.int .i64 k,.int .i64 v1,.int .i64 v2,S v3,S xt,S xn,.int .i64 o,.slice a args.length c,S al] 91);have hB:=(Bl.refl W).alloc (.cells #[.bool st,S t,.int .i64 k,.int .i64 v1,.int .i64 v2,S v3,S xt,S xn,.int .i64 o,.slice a args.length c,S al] 91);have hB2:=hB.alloc (.map #[bEnt true 137 W.heap.size 0,bEnt false 139 W.heap.size 1] 2);have hX2:=(aW (W.alloc (.cells #[.bool st,S t,.int .i64 k,.int .i64 v1,.int .i64 v2,S v3,S xt,S xn,.int .i64 o,.slice a args.length c,S al] 91)) (.map #[bEnt true 137 W.heap.size 0,bEnt false 139 W.heap.size 1] 2) aa).trans hX;have HF:Hid (fb (if st=true then 137 else 139) #[.pointer (some ⟨W.heap.size,0,none⟩)] ((W.alloc (.cells #[.bool st,S t,.int .i64 k,.int .i64 v1,.int .i64 v2,S v3,S xt,S xn,.int .i64 o,.slice a args.length c,S al] 91)).alloc (.map #[bEnt true 137 W.heap.size 0,bEnt false 139 W.heap.size 1] 2)) fun e w'=>e= .returned (S (d5x ⟨st,t,.mk k (v1,v2,v3) xt xn o args,al⟩))/\Bl ((W.alloc (.cells #[.bool st,S t,.int .i64 k,.int .i64 v1,.int .i64 v2,S v3,S xt,S xn,.int .i64 o,.slice a args.length c,S al] 91)).alloc (.map #[bEnt true 137 W.heap.size 0,bEnt false 139 W.heap.size 1] 2)) w'):=by
  cases st
  ·exact d7r (st:=false) (t:=t) hok.x (e6s hi) hl (hR.bl hB2) (hG.bl hB2) hX2
  ·have ht:=e3t hi;exact d7s (st:=true) ht (ht.elim (fun h=>by rw[h];simp) a6x) hX2
 have HB2:=aB hB2;have hmm:= @run_makeMap prog;have h0:=e7i (W.alloc (.cells #[.bool st,S t,.int .i64 k,.int .i64 v1,.int .i64 v2,S v3,S xt,S xn,.int .i64 o,.slice a args.length c,S al] 91)) W.heap.size;rw[aR] at h0;have h1:=e7h (W.alloc (.cells #[.bool st,S t,.int .i64 k,.int .i64 v1,.int .i64 v2,S v3,S xt,S xn,.int .i64 o,.slice a args.length c,S al] 91)) W.heap.size;rw[aR] at h1;have hlk:=e7g ((W.alloc (.cells #[.bool st,S t,.int .i64 k,.int .i64 v1,.int .i64 v2,S v3,S xt,S xn,.int .i64 o,.slice a args.length c,S al] 91)).alloc (.map #[bEnt true 137 W.heap.size 0,bEnt false 139 W.heap.size 1] 2)) W.heap.size (W.heap.size+1) (aV _ _ aa) st;generalize d5x ⟨st,t,.mk k (v1,v2,v3) xt xn o args,al⟩=u at *;show fb 68 #[.agg #[.bool st,S t,.int .i64 k,.int .i64 v1,.int .i64 v2,S v3,S xt,S xn,.int .i64 o,.slice a args.length c,S al]] W _;clear hR hr hG hok hi hl hX hB hB2 hX2;cases st
 all_goals
  simp only[fM,↓reduceIte] at HF hlk;go_enter func68,ntmps68;go_wp2_with fail;refine HF.o.mono ?_;rintro e w1 ⟨rfl,hb⟩;go_wp2;go_ret;exact⟨rfl,HB2.o.call hb⟩
structure e1b(W:World)(bq bf:Nat)(q:Qu)(ai:Option Addr)(ci:Nat)(aj:Option Addr)(cj:Nat)(aw:Option Addr)(cw:Nat)(ag:Option Addr)(cg:Nat)(ah:Option Addr)(ch:Nat)(ao:Option Addr)(co:Nat):Prop where
 x:W.heap[bq]?=some (.cells (quC q (.slice ai q.items.length ci) (.slice aj q.joins.length cj) (.slice aw q.wher.args.length cw) (.slice ag q.group.length cg) (.slice ah q.having.args.length ch) (.slice ao q.orders.length co)).toArray 36 (0,0))
 f:W.heap[bf]?=some (.cells #[.func (.func 92) #[] #[]] 137 (0,0))
 p:d2t (fun _=>True) W q (.slice ai q.items.length ci) (.slice aj q.joins.length cj) (.slice aw q.wher.args.length cw) (.slice ag q.group.length cg) (.slice ah q.having.args.length ch) (.slice ao q.orders.length co)
 g:nD W
section
variable {W:World} {bq bf:Nat} {q:Qu} {ai aj aw ag ah ao:Option Addr} {ci cj cw cg ch co:Nat}
theorem e1b.bl{W':World}(h:e1b W bq bf q ai ci aj cj aw cw ag cg ah ch ao co)(hb:Bl W W'):e1b W' bq bf q ai ci aj cj aw cw ag cg ah ch ao co:=
 ⟨(hb.block _ (aC.1 h.x).1).trans h.x,(hb.block _ (aC.1 h.f).1).trans h.f,h.p.bl hb,h.g.bl hb⟩
theorem e6h{q:Qu}(j:Nat)(c:Bool×List UInt8)(h:(d2q q)[j]?=some c)(h1:c.1=true)(hq:e1a q)(hr:d3e q=true):c.2.length<=100000000:=jH (e2m (dJ h) h1) (hq.text hr)
theorem e5g{q:Qu}(hr:d3e q=true):∀i∈q.items,d3r i=true:=fun i hi=>by
 have h:=(d3k hr).i;unfold d4l at h;simp only[aQ,jA] at h;exact h.2 i hi
theorem e7j{q:Qu}(hr:d3e q=true):q.items≠[]:=fun e=>by
 have h:=(d3k hr).i;unfold d4l at h;rw[e] at h;exact absurd h af
theorem e5f{q:Qu}(hr:d3e q=true):∀j∈q.joins,eH j.on=true:=fun i hi=>by
 have h:=(d3k hr).j;simp only[aQ,jA] at h;exact(h.2 i hi).2
theorem e5p{q:Qu}(hr:d3e q=true):∀j∈q.group,eH j=true:=fun i hi=>by
 have h:=(d3k hr).g;simp only[aQ,jA] at h;exact h.2 i hi
theorem e5c{q:Qu}(hr:d3e q=true):∀j∈q.orders,eH j.x=true:=fun i hi=>by
 have h:=(d3k hr).o;simp only[aQ,jA] at h;exact h.2 i hi
theorem d8m{α:Type}{l:List α}{tx:α->List UInt8}{w:World}{v:Value}(h:(l=[]/\∃a' d',v= .slice a' 0 d')\/sW w v (l.map tx))(hne:l≠[]):sW w v (l.map tx):=h.resolve_left fun h=>hne h.1
theorem d5g{s:List UInt8}{α:Type}{l:List α}{tx:α->List UInt8}{n:Nat}(h:(jR s (l.map tx)).length<=n):∀x∈l,(tx x).length<=n:=fun _ hx=>jH (d7l (List.mem_map_of_mem hx)) h
theorem e5b(W:World):fb 94 #[] W fun e w'=>e= .returned (S d3h)/\Bl W w':=by
 go_enter func94,ntmps94;go_wp2;go_ret;exact⟨rfl,Bl.refl _⟩
theorem e5a(W:World):fb 95 #[] W fun e w'=>e= .returned (S d2s)/\Bl W w':=by
 go_enter func95,ntmps95;go_wp2;go_ret;exact⟨rfl,Bl.refl _⟩
theorem e4z(hq:e1a q)(hr:d3e q=true)(h:e1b W bq bf q ai ci aj cj aw cw ag cg ah ch ao co):fb 96 #[.pointer (some ⟨bq,0,none⟩),.pointer (some ⟨bf,0,none⟩)] W fun e w'=>e= .returned (S (jR [32] [d5q q.items,d5p,d4g q.frm]))/\Bl W w':=by
 have hlen:=e6h 2 _ rfl rfl hq hr;have hl2:=hlen;dsimp only at hlen hl2;simp only[jR,bD] at hl2;have HTI:Hid (∀w,Bl W w->fb 67 #[.slice ai q.items.length ci,.func (.func 68) #[] #[]] w fun e w'=>(∃v,e= .returned v/\sW w' v (q.items.map d5x))/\Bl w w'):=fun w hb=>by
  refine(e1p (tx:=d5x) (fn:=68) #[] d6v hq.li (h.p.items.bl hb) (fun y hy W' s hb' hs=>d8r (e5g hr y hy) (hq.items y hy) (d5g (s:=[44,32]) (show(jR [44,32] (q.items.map d5x)).length<=100000000 from(show(d5q q.items).length<=100000000 by omega)) y hy) hs (h.g.bl (hb.call hb')))).mono ?_;rintro e w' ⟨⟨v,he,hv⟩,hb2⟩;exact⟨⟨v,he,d8m hv (e7j hr)⟩,hb2⟩
 have HC:Hid (∀w v,sW w v (q.items.map d5x)->fb 66 #[v] w fun e w'=>e= .returned (S (d5q q.items))/\Bl w w'):=fun w v hv=>d5r hv (by simpa using hq.li) (by show(d5q q.items).length<=_;omega);have HS:Hid (∀w,fb 92 #[.agg #[S q.frm.t,S q.frm.al]] w fun e w'=>e= .returned (S (d4g q.frm))/\Bl w w'):=fun w=>e0u q.frm aE w;have HE:=aB (bT h.x h.f);have HL:=aB hlen;generalize d5q q.items=u1 at *;generalize d4g q.frm=u2 at *;clear hlen hl2 h hq hr;go_enter func96,ntmps96;go_wp2_with fail;refine wp_region_noPanic (bM (fun B=>B.heap[bq]?=some (.cells (quC q (.slice ai q.items.length ci) (.slice aj q.joins.length cj) (.slice aw q.wher.args.length cw) (.slice ag q.group.length cg) (.slice ah q.having.args.length ch) (.slice ao q.orders.length co)).toArray 36 (0,0))/\B.heap[bf]?=some (.cells #[.func (.func 92) #[] #[]] 137 (0,0))) ((.take 0 (.take 1 (.take 4 (.take 5 (.take 6 (.one 2 (.one 3 (.one 7 (.one 8 (.one 9 (.take 10 .done)))))))))))) ae ae ae (fun _ _ _ _ _ h=>h) (eB HE.o ((Bl.refl _).drew)) ?_);intro wd HWD hY;iterate 5 (refine aI rfl ab (by intro w hSw;(try dsimp only at hSw);have f0:=cK hSw.2;obtain⟨c0,c1,c2,c3,c4,c5,c6,c7,c8,c9,c10,c11,c12,c13,c14,c15,c16,c17,c18,c19,c20,c21,c22,c23⟩:=d2n hSw.1;go_simp;(try(first |with_reducible rfl|rfl))) ?_;(try simp only[aK,aA,aD,aF]))
 refine aL rfl (fun K hK=>?_);go_simp;(refine(HTI.o _ HWD.o).mono ?_;rintro e w3 ⟨⟨v,rfl,hv⟩,hb3⟩;have hb:=hb3);go_wp2_with fail;refine hK.o _ _ ((eB hY hb)) ?_;clear hY hK K;intro hY;clear hb;refine aL rfl (fun K hK=>?_);go_simp;(refine(HC.o _ _ hv).mono ?_;rintro e w4 ⟨rfl,hb4⟩;have hb:=hb4);go_wp2_with fail;refine hK.o _ _ ((eB hY hb)) ?_;clear hY hK K;intro hY;clear hb;refine aL rfl (fun K hK=>?_);go_simp;(refine(HS.o _).mono ?_;rintro e w5 ⟨rfl,hb5⟩;have hb:=hb5);go_wp2_with fail;refine hK.o _ _ ((eB hY hb)) ?_;clear hY hK K;intro hY;clear hb;refine aL rfl (fun K hK=>?_);go_simp;refine hK.o _ _ ((eB hY ((Bl.refl _).alloc _))) ?_;clear hY hK K;intro hY;refine aL rfl (fun K hK=>?_);go_simp;(refine(d3a (wO w5 [u1,d5p,u2] _ _ rfl _ _ rfl rfl) aa HL.o).mono ?_;rintro e w6 ⟨rfl,hb6⟩;have hb:=hb6);go_wp2_with fail;refine hK.o _ _ ((eB hY hb)) ?_;clear hY hK K;intro hY;clear hb;refine aI rfl ab (by intro w hSw;(try dsimp only at hSw);have f0:=cK hSw.2;obtain⟨c0,c1,c2,c3,c4,c5,c6,c7,c8,c9,c10,c11,c12,c13,c14,c15,c16,c17,c18,c19,c20,c21,c22,c23⟩:=d2n hSw.1;go_simp;(try(first |with_reducible rfl|rfl))) ?_;(try simp only[aK,aA,aD,aF])
 refine fO (bF ?_);go_wp2;go_ret;exact⟨rfl,((((Bl.call HWD.o hb3).call hb4).call hb5).alloc _).call hb6⟩
end
end
section
section
variable {W:World} {bq bf:Nat} {q:Qu} {ai aj aw ag ah ao:Option Addr} {ci cj cw cg ch co:Nat}
theorem e3n{α:Type}{l:List α}(h:decide (0<l.length)=true):l≠[]:=fun e=>by rw[e] at h;cases h
theorem d6x{x:Ex}(hp:e0m x)(hC:eH x=true){a:Option Addr}{c:Nat}{p:Nat->Prop}(hr:bG p W (.slice a x.args.length c) x.args)(hG:nD W):Hid (∀w,Bl W w->fb 100 #[EV x.k x.v x.t x.n x.o (.slice a x.args.length c)] w fun e w'=>e= .returned (S (eY x))/\Bl w w'):=
 fun w hb=>d7h hp hC w _ ⟨_,rfl,hr.reads.bl hb⟩ (hG.bl hb)
theorem e3j{j:Jo}(hx:e0m j.on)(hC:eH j.on=true)(hl:(d4f j).length<=100000000){p:Nat->Prop}{s:Value}(hr:bG p W s j.on.args)(hG:nD W)(hF:W.heap[bf]?=some (.cells #[.func (.func 92) #[] #[]] 137 (0,0))):
  fb 99 #[.agg (fJo.cells j s).toArray,.pointer (some ⟨bf,0,none⟩)] W fun e w'=>e= .returned (S (d4f j))/\Bl W w':=by
 obtain⟨a,c,rfl⟩:=hr.shape;have HT:=d6x hx hC hr hG;have hl2:=hl;simp only[d4f,jR,bD] at hl2;have HS:Hid (∀w,fb 92 #[.agg #[S j.s.t,S j.s.al]] w fun e w'=>e= .returned (S (d4g j.s))/\Bl w w'):=fun w=>e0u j.s aE w;have HL:=aB (show(jR [32] [d5v,d4g j.s,wOn,eY j.on]).length<=100000000 from hl);show fb 99 #[.agg (fJo.cells j (.slice a j.on.args.length c)).toArray,.pointer (some ⟨bf,0,none⟩)] W fun e w'=>e= .returned (S (jR [32] [d5v,d4g j.s,wOn,eY j.on]))/\Bl W w';obtain⟨⟨t,al⟩,⟨k,⟨v1,v2,v3⟩,xt,xn,o,args⟩⟩:=j;simp only[Ex.k,Ex.v,Ex.t,Ex.n,Ex.o,Ex.args] at *;generalize d4g ⟨t,al⟩=u1 at *;generalize eY (.mk k (v1,v2,v3) xt xn o args)=u2 at *;generalize args.length=m at *;show fb 99 #[.agg (joL t al k v1 v2 v3 xt xn o (.slice a m c)).toArray,.pointer (some ⟨bf,0,none⟩)] W _;have HX:=aB (bT (aN W (.cells (joL t al k v1 v2 v3 xt xn o (.slice a m c)).toArray 78)) ((aW W (.cells (joL t al k v1 v2 v3 xt xn o (.slice a m c)).toArray 78) (aC.1 hF).1).trans hF));have HB:=aB ((Bl.refl W).alloc (.cells (joL t al k v1 v2 v3 xt xn o (.slice a m c)).toArray 78));clear hx hC hl hl2 hr hG hF;go_enter func99,ntmps99;go_wp2_with fail;refine wp_region_noPanic (bM (fun B=>B.heap[W.heap.size]?=some (.cells (joL t al k v1 v2 v3 xt xn o (.slice a m c)).toArray 78 (0,0))/\B.heap[bf]?=some (.cells #[.func (.func 92) #[] #[]] 137 (0,0))) ((.take 0 (.take 1 (.take 2 (.take 4 (.take 5 (.one 3 (.one 6 (.one 7 (.one 8 (.take 9 .done))))))))))) ae ae ae (fun _ _ _ _ _ h=>h) (eB HX.o ((Bl.refl _).drew)) ?_);intro wd HWD hY;iterate 5 (refine aI rfl ab (by intro w hSw;(try dsimp only at hSw);have f0:=cK hSw.2;have c0:w.cell? ⟨W.heap.size,0,none⟩=some (S t):=(aG hSw.1 0).trans rfl;have c1:w.cell? ⟨W.heap.size,1,none⟩=some (S al):=(aG hSw.1 1).trans rfl;have c2:w.cell? ⟨W.heap.size,2,none⟩=some (.int .i64 k):=(aG hSw.1 2).trans rfl;have c3:w.cell? ⟨W.heap.size,3,none⟩=some (.int .i64 v1):=(aG hSw.1 3).trans rfl;have c4:w.cell? ⟨W.heap.size,4,none⟩=some (.int .i64 v2):=(aG hSw.1 4).trans rfl;have c5:w.cell? ⟨W.heap.size,5,none⟩=some (S v3):=(aG hSw.1 5).trans rfl;have c6:w.cell? ⟨W.heap.size,6,none⟩=some (S xt):=(aG hSw.1 6).trans rfl;have c7:w.cell? ⟨W.heap.size,7,none⟩=some (S xn):=(aG hSw.1 7).trans rfl;have c8:w.cell? ⟨W.heap.size,8,none⟩=some (.int .i64 o):=(aG hSw.1 8).trans rfl;have c9:w.cell? ⟨W.heap.size,9,none⟩=some (.slice a m c):=(aG hSw.1 9).trans rfl;go_simp;(try(first |with_reducible rfl|rfl))) ?_;(try simp only[aK,aA,aD,aF]))
 refine aL rfl (fun K hK=>?_);go_simp;(refine(HS.o _).mono ?_;rintro e w3 ⟨rfl,hb3⟩;have hb:=hb3);go_wp2_with fail;refine hK.o _ _ ((eB hY hb)) ?_;clear hY hK K;intro hY;clear hb;refine aL rfl (fun K hK=>?_);go_simp;(refine(HT.o _ ((HB.o.call HWD.o).call hb3)).mono ?_;rintro e w4 ⟨rfl,hb4⟩;have hb:=hb4);go_wp2_with fail;refine hK.o _ _ ((eB hY hb)) ?_;clear hY hK K;intro hY;clear hb;refine aL rfl (fun K hK=>?_);go_simp;refine hK.o _ _ ((eB hY ((Bl.refl _).alloc _))) ?_;clear hY hK K;intro hY;refine aL rfl (fun K hK=>?_);go_simp;(refine(d3a (wO w4 [d5v,u1,wOn,u2] _ _ rfl _ _ rfl rfl) aa HL.o).mono ?_;rintro e w6 ⟨rfl,hb6⟩;have hb:=hb6);go_wp2_with fail;refine hK.o _ _ ((eB hY hb)) ?_;clear hY hK K;intro hY;clear hb;refine aI rfl ab (by intro w hSw;(try dsimp only at hSw);have f0:=cK hSw.2;have c0:w.cell? ⟨W.heap.size,0,none⟩=some (S t):=(aG hSw.1 0).trans rfl;have c1:w.cell? ⟨W.heap.size,1,none⟩=some (S al):=(aG hSw.1 1).trans rfl;have c2:w.cell? ⟨W.heap.size,2,none⟩=some (.int .i64 k):=(aG hSw.1 2).trans rfl;have c3:w.cell? ⟨W.heap.size,3,none⟩=some (.int .i64 v1):=(aG hSw.1 3).trans rfl;have c4:w.cell? ⟨W.heap.size,4,none⟩=some (.int .i64 v2):=(aG hSw.1 4).trans rfl;have c5:w.cell? ⟨W.heap.size,5,none⟩=some (S v3):=(aG hSw.1 5).trans rfl;have c6:w.cell? ⟨W.heap.size,6,none⟩=some (S xt):=(aG hSw.1 6).trans rfl;have c7:w.cell? ⟨W.heap.size,7,none⟩=some (S xn):=(aG hSw.1 7).trans rfl;have c8:w.cell? ⟨W.heap.size,8,none⟩=some (.int .i64 o):=(aG hSw.1 8).trans rfl;have c9:w.cell? ⟨W.heap.size,9,none⟩=some (.slice a m c):=(aG hSw.1 9).trans rfl;go_simp;(try(first |with_reducible rfl|rfl))) ?_;(try simp only[aK,aA,aD,aF])
 refine fO (bF ?_);go_wp2;go_ret;exact⟨rfl,((((HB.o.call HWD.o).call hb3).call hb4).alloc _).call hb6⟩
theorem e4y(hq:e1a q)(hr:d3e q=true)(h:e1b W bq bf q ai ci aj cj aw cw ag cg ah ch ao co)(hne:decide (0<q.joins.length)=true):fb 97 #[.pointer (some ⟨bq,0,none⟩),.pointer (some ⟨bf,0,none⟩)] W fun e w'=>e= .returned (S (jR [32] (q.joins.map d4f)))/\Bl W w':=by
 have hlen:=e6h 3 _ rfl hne hq hr;dsimp only at hlen;have HTI:Hid (∀w,Bl W w->fb 98 #[.slice aj q.joins.length cj,.func (.func 99) #[] #[.pointer (some ⟨bf,0,none⟩)]] w fun e w'=>(∃v,e= .returned v/\sW w' v (q.joins.map d4f))/\Bl w w'):=fun w hb=>by
  refine(e1o (tx:=d4f) (fn:=99) #[.pointer (some ⟨bf,0,none⟩)] d9s hq.lj (h.p.joins.bl hb) (fun y hy W' s hb' hs=>e3j (hq.joins y hy).2 (e5f hr y hy) (d5g hlen y hy) hs (h.g.bl (hb.call hb')) (h.bl (hb.call hb')).f)).mono ?_;rintro e w' ⟨⟨v,he,hv⟩,hb2⟩;exact⟨⟨v,he,d8m hv (e3n hne)⟩,hb2⟩
 have HC:Hid (∀w v,sW w v (q.joins.map d4f)->fb 37 #[v] w fun e w'=>e= .returned (S (jR [32] (q.joins.map d4f)))/\Bl w w'):=fun w v hv=>d3a hv (by simpa using hq.lj) hlen;obtain⟨c0,c1,c2,c3,c4,c5,c6,c7,c8,c9,c10,c11,c12,c13,c14,c15,c16,c17,c18,c19,c20,c21,c22,c23⟩:=d2n h.x;generalize jR [32] (q.joins.map d4f)=u at *;clear hlen h hq hr hne;go_enter func97,ntmps97;go_wp2_with fail;refine(HTI.o _ (Bl.refl _)).mono ?_;rintro e w3 ⟨⟨v,rfl,hv⟩,hb3⟩;have HV:=aB hv;go_wp2_with fail;refine(HC.o _ _ HV.o).mono ?_;rintro e w4 ⟨rfl,hb4⟩;go_wp2;go_ret;exact⟨rfl,hb3.call hb4⟩
theorem e4x(hq:e1a q)(hr:d3e q=true)(h:e1b W bq bf q ai ci aj cj aw cw ag cg ah ch ao co)(hne:d3i q.wher=false):fb 101 #[.pointer (some ⟨bq,0,none⟩)] W fun e w'=>e= .returned (S (jR [32] [d6o,eY q.wher]))/\Bl W w':=by
 have hlen:=e6h 4 _ rfl (by show(!d3i q.wher)=true;rw[hne];rfl) hq hr;dsimp only at hlen;have hC:eH q.wher=true:=by
  rcases(d3k hr).w with h|h
  ·rw[h] at hne;cases hne
  ·first |exact h.2|exact h.2.1
 have HT:=d6x hq.wher hC h.p.wher h.g;have HL:=aB hlen;obtain⟨c0,c1,c2,c3,c4,c5,c6,c7,c8,c9,c10,c11,c12,c13,c14,c15,c16,c17,c18,c19,c20,c21,c22,c23⟩:=d2n h.x;generalize eY q.wher=u at *;clear hlen h hq hr hne hC;go_enter func101,ntmps101;go_wp2_with fail;refine(HT.o _ (Bl.refl _)).mono ?_;rintro e w3 ⟨rfl,hb3⟩;go_wp2_with fail;refine(d3a (wO w3 [d6o,u] _ _ rfl _ _ rfl rfl) aa HL.o).mono ?_;rintro e w4 ⟨rfl,hb4⟩;go_wp2;go_ret;exact⟨rfl,(hb3.alloc _).call hb4⟩
theorem e4v(hq:e1a q)(hr:d3e q=true)(h:e1b W bq bf q ai ci aj cj aw cw ag cg ah ch ao co)(hne:d3i q.having=false):fb 104 #[.pointer (some ⟨bq,0,none⟩)] W fun e w'=>e= .returned (S (jR [32] [d3v,eY q.having]))/\Bl W w':=by
 have hlen:=e6h 6 _ rfl (by show(!d3i q.having)=true;rw[hne];rfl) hq hr;dsimp only at hlen;have hC:eH q.having=true:=by
  rcases(d3k hr).h with h|h
  ·rw[h] at hne;cases hne
  ·first |exact h.2|exact h.2.1
 have HT:=d6x hq.having hC h.p.having h.g;have HL:=aB hlen;obtain⟨c0,c1,c2,c3,c4,c5,c6,c7,c8,c9,c10,c11,c12,c13,c14,c15,c16,c17,c18,c19,c20,c21,c22,c23⟩:=d2n h.x;generalize eY q.having=u at *;clear hlen h hq hr hne hC;go_enter func104,ntmps104;go_wp2_with fail;refine(HT.o _ (Bl.refl _)).mono ?_;rintro e w3 ⟨rfl,hb3⟩;go_wp2_with fail;refine(d3a (wO w3 [d3v,u] _ _ rfl _ _ rfl rfl) aa HL.o).mono ?_;rintro e w4 ⟨rfl,hb4⟩;go_wp2;go_ret;exact⟨rfl,(hb3.alloc _).call hb4⟩
theorem e4w(hq:e1a q)(hr:d3e q=true)(h:e1b W bq bf q ai ci aj cj aw cw ag cg ah ch ao co)(hne:decide (0<q.group.length)=true):fb 102 #[.pointer (some ⟨bq,0,none⟩)] W fun e w'=>e= .returned (S (jR [32] [d4q++[32]++wBy,jR [44,32] (q.group.map eY)]))/\Bl W w':=by
 have hlen:=e6h 5 _ rfl hne hq hr;have hl2:=hlen;dsimp only at hlen hl2;simp only[jR,bD] at hl2;have hl3:(jR [44,32] (q.group.map eY)).length<=100000000:=aE;have HTI:Hid (∀w,Bl W w->fb 103 #[.slice ag q.group.length cg,.func (.func 100) #[] #[]] w fun e w'=>(∃v,e= .returned v/\sW w' v (q.group.map eY))/\Bl w w'):=fun w hb=>by
  refine(e1q (tx:=eY) (fn:=100) #[] d9q hq.lg (d8w (h.p.group.bl hb)) (fun y hy W' s hb' hs=>d7h (hq.group y hy) (e5p hr y hy) W' _ ⟨s,rfl,bG.reads hs⟩ (h.g.bl (hb.call hb')))).mono ?_;rintro e w' ⟨⟨v,he,hv⟩,hb2⟩;exact⟨⟨v,he,d8m hv (e3n hne)⟩,hb2⟩
 have HC:Hid (∀w v,sW w v (q.group.map eY)->fb 66 #[v] w fun e w'=>e= .returned (S (jR [44,32] (q.group.map eY)))/\Bl w w'):=fun w v hv=>d5r hv (by simpa using hq.lg) hl3;have HL:=aB hlen;obtain⟨c0,c1,c2,c3,c4,c5,c6,c7,c8,c9,c10,c11,c12,c13,c14,c15,c16,c17,c18,c19,c20,c21,c22,c23⟩:=d2n h.x;generalize jR [44,32] (q.group.map eY)=u at *;clear hlen hl2 hl3 h hq hr hne;go_enter func102,ntmps102;go_wp2_with fail;refine(HTI.o _ (Bl.refl _)).mono ?_;rintro e w3 ⟨⟨v,rfl,hv⟩,hb3⟩;have HV:=aB hv;go_wp2_with fail;refine(HC.o _ _ HV.o).mono ?_;rintro e w4 ⟨rfl,hb4⟩;go_wp2_with fail;refine(d3a (wO w4 [d4q++[32]++wBy,u] _ _ rfl _ _ rfl rfl) aa HL.o).mono ?_;rintro e w5 ⟨rfl,hb5⟩;go_wp2;go_ret;exact⟨rfl,((hb3.call hb4).alloc _).call hb5⟩
theorem e3i{o:Od}(hx:e0m o.x)(hC:eH o.x=true)(hl:(d4r o).length<=100000000){p:Nat->Prop}{s:Value}(hr:bG p W s o.x.args)(hG:nD W):
  fb 107 #[.agg (fOd.cells o s).toArray] W fun e w'=>e= .returned (S (d4r o))/\Bl W w':=by
 obtain⟨a,c,rfl⟩:=hr.shape;have HT:=d6x hx hC hr hG;obtain⟨⟨k,⟨v1,v2,v3⟩,xt,xn,oo,args⟩,dn⟩:=o;have HE:Hid (d4r ⟨.mk k (v1,v2,v3) xt xn oo args,dn⟩=eY (.mk k (v1,v2,v3) xt xn oo args)++(if dn=true then[32]++d4e else[])):=rfl;rw[HE.o] at hl⊢;simp only[Ex.k,Ex.v,Ex.t,Ex.n,Ex.o,Ex.args] at *;generalize eY (.mk k (v1,v2,v3) xt xn oo args)=u at *;generalize args.length=m at *;show fb 107 #[.agg #[.int .i64 k,.int .i64 v1,.int .i64 v2,S v3,S xt,S xn,.int .i64 oo,.slice a m c,.bool dn]] W _;clear hx hC hr hG HE;have HB:=aB ((Bl.refl W).alloc (.cells #[.int .i64 k,.int .i64 v1,.int .i64 v2,S v3,S xt,S xn,.int .i64 oo,.slice a m c,.bool dn] 80));cases dn
 ·go_enter func107,ntmps107;go_wp2_with fail;refine(HT.o _ HB.o).mono ?_;rintro e w3 ⟨rfl,hb3⟩;go_wp2;go_ret;exact⟨by simp,HB.o.call hb3⟩
 ·have HL:=aB (show(jR [32] [u,d4e]).length<=100000000 from by simp[jR] at hl⊢;omega);have HJ:Hid (u++(if(true:Bool)=true then[32]++d4e else[])=jR [32] [u,d4e]):=(by show _=_;simp[jR]);rw[HJ.o];clear hl;go_enter func107,ntmps107;go_wp2_with fail;refine(HT.o _ HB.o).mono ?_;rintro e w3 ⟨rfl,hb3⟩;go_wp2_with fail;refine(d3a (wO w3 [u,d4e] _ _ rfl _ _ rfl rfl) aa HL.o).mono ?_;rintro e w4 ⟨rfl,hb4⟩;go_wp2;go_ret;exact⟨rfl,((HB.o.call hb3).alloc _).call hb4⟩
theorem e4u(hq:e1a q)(hr:d3e q=true)(h:e1b W bq bf q ai ci aj cj aw cw ag cg ah ch ao co)(hne:decide (0<q.orders.length)=true):fb 105 #[.pointer (some ⟨bq,0,none⟩)] W fun e w'=>e= .returned (S (jR [32] [d5n++[32]++wBy,jR [44,32] (q.orders.map d4r)]))/\Bl W w':=by
 have hlen:=e6h 7 _ rfl hne hq hr;have hl2:=hlen;dsimp only at hlen hl2;simp only[jR,bD] at hl2;have hl3:(jR [44,32] (q.orders.map d4r)).length<=100000000:=aE;have HTI:Hid (∀w,Bl W w->fb 106 #[.slice ao q.orders.length co,.func (.func 107) #[] #[]] w fun e w'=>(∃v,e= .returned v/\sW w' v (q.orders.map d4r))/\Bl w w'):=fun w hb=>by
  refine(e1n (tx:=d4r) (fn:=107) #[] d9r hq.lo (h.p.orders.bl hb) (fun y hy W' s hb' hs=>e3i (hq.orders y hy) (e5c hr y hy) (d5g hl3 y hy) hs (h.g.bl (hb.call hb')))).mono ?_;rintro e w' ⟨⟨v,he,hv⟩,hb2⟩;exact⟨⟨v,he,d8m hv (e3n hne)⟩,hb2⟩
 have HC:Hid (∀w v,sW w v (q.orders.map d4r)->fb 66 #[v] w fun e w'=>e= .returned (S (jR [44,32] (q.orders.map d4r)))/\Bl w w'):=fun w v hv=>d5r hv (by simpa using hq.lo) hl3;have HL:=aB hlen;obtain⟨c0,c1,c2,c3,c4,c5,c6,c7,c8,c9,c10,c11,c12,c13,c14,c15,c16,c17,c18,c19,c20,c21,c22,c23⟩:=d2n h.x;generalize jR [44,32] (q.orders.map d4r)=u at *;clear hlen hl2 hl3 h hq hr hne;go_enter func105,ntmps105;go_wp2_with fail;refine(HTI.o _ (Bl.refl _)).mono ?_;rintro e w3 ⟨⟨v,rfl,hv⟩,hb3⟩;have HV:=aB hv;go_wp2_with fail;refine(HC.o _ _ HV.o).mono ?_;rintro e w4 ⟨rfl,hb4⟩;go_wp2_with fail;refine(d3a (wO w4 [d5n++[32]++wBy,u] _ _ rfl _ _ rfl rfl) aa HL.o).mono ?_;rintro e w5 ⟨rfl,hb5⟩;go_wp2;go_ret;exact⟨rfl,((hb3.call hb4).alloc _).call hb5⟩
theorem e3k(hq:e1a q)(hr:d3e q=true)(h:e1b W bq bf q ai ci aj cj aw cw ag cg ah ch ao co)(hne:decide (0<=q.limit)=true):fb 108 #[.pointer (some ⟨bq,0,none⟩)] W fun e w'=>e= .returned (S (jR [32] [d6p,dQ q.limit]))/\Bl W w':=by
 have hlen:=e6h 8 _ rfl hne hq hr;dsimp only at hlen;have HI:=aB (Tryz.strconv_FormatInt_10 q.limit hq.lim.1 hq.lim.2 W h.g.pow);have HL:=aB hlen;obtain⟨c0,c1,c2,c3,c4,c5,c6,c7,c8,c9,c10,c11,c12,c13,c14,c15,c16,c17,c18,c19,c20,c21,c22,c23⟩:=d2n h.x;clear hlen h hq hr hne;go_enter func108,ntmps108;go_wp2_with fail;refine HI.o.mono ?_;rintro e w3 ⟨rfl,j,os,hw⟩;have hb3:Bl W w3:=(by rw[hw];exact Bl.regrown _ _ _);clear hw;go_wp2_with fail;refine(d3a (wO w3 [d6p,dQ q.limit] _ _ rfl _ _ rfl rfl) aa HL.o).mono ?_;rintro e w4 ⟨rfl,hb4⟩;go_wp2;go_ret;exact⟨rfl,(Bl.alloc hb3 _).call hb4⟩
end
end
section
theorem e3x{W:World}{bs g cap k:Nat}{ts:List Tok}(h:iV W bs g cap ts k)(xs:List (List UInt8))(cs:Array Value)(n b:Nat)(t:TypeId)(hcs:cs=(xs.map fun s=>S s).toArray)(hn:n=xs.length)(hm:xs.length<=1000000)(hb:b=W.heap.size):
  fb 118 #[.pointer (some ⟨bs,0,none⟩),.slice (some ⟨b,0,none⟩) n n] (W.alloc (.cells cs t)) fun e w'=>e= .returned (.bool (bH ts k xs).isSome)/\W.grownBy w' (some bs)/\iV w' bs g cap ts ((bH ts k xs).getD k):=by
 cases ht:bH ts k xs with
 |none=>exact kM h xs ht cs n b t hcs hn hm hb
 |some k'=>exact jD h xs ht cs n b t hcs hn hm hb
theorem d8x{W:World}{bs g cap k:Nat}{ts:List Tok}(h:iV W bs g cap ts k)(xs:List (List UInt8))(cs:Array Value)(n b:Nat)(t:TypeId)(hcs:cs=(xs.map fun s=>S s).toArray)(hn:n=xs.length)(hm:xs.length<=1000000)(hb:b=W.heap.size):
  fb 118 #[.pointer (some ⟨bs,0,none⟩),.slice (some ⟨b,0,none⟩) n n] (W.alloc (.cells cs t)) fun e w'=>∃(c:Bool) (k':Nat),e= .returned (.bool c)/\W.grownBy w' (some bs)/\iV w' bs g cap ts k'/\((c=true/\bH ts k xs=some k')\/(c=false/\bH ts k xs=none/\k=k')):=by
 cases ht:bH ts k xs with
 |none=>exact(kM h xs ht cs n b t hcs hn hm hb).mono fun e w' ⟨h1,h2,h3⟩=>⟨false,k,h1,h2,h3,.inr ⟨rfl,rfl,rfl⟩⟩
 |some k'=>exact(jD h xs ht cs n b t hcs hn hm hb).mono fun e w' ⟨h1,h2,h3⟩=>⟨true,k',h1,h2,h3,.inl ⟨rfl,rfl⟩⟩
theorem FrB.own{W A B:World}{bs:Nat}{T:TypeId}{cs:Array Value}{r:Option Nat}(h:FrB W A bs T cs)(hg:A.grownBy B r)(hr:∀j,r=some j->W.heap.size+2<=j):FrB W B bs T cs:=
 have hz:=h.size
 ⟨⟨hg.1.trans h.grown.1,hg.2.trans h.grown.2,hg.3.trans h.grown.3,jH h.grown.4 hg.4,fun i hi hb=>(hg.block i aE (fun e=>by have:=hr i e.symm;omega)).trans (h.grown.block i hi hb)⟩,
  (hg.block _ aE (fun e=>by have:=hr _ e.symm;omega)).trans h.r,(hg.block _ aE (fun e=>by have:=hr _ e.symm;omega)).trans h.x⟩
abbrev zQu:Array Value:=(quC (quA false [] ⟨[],[]⟩) d2i d2i d2i d2i d2i d2i).toArray
theorem e1s{W:World}{bs g cap k:Nat}{ts:List Tok}(h:iV W bs g cap ts k)(hT:lC ts)(hV:e6m ts):fb 63 #[RV bs] W (d2o (e4e W.heap.size) bs g cap ts W (d5c ts k)):=by
 obtain⟨R,HR⟩:∃R,Hid (R=d5c ts k):=⟨_,rfl⟩
 rw[<-HR.o];have HRQ:=aB (HR.o.trans (e4t ts k));have HTK:=aB hT;have HV:=aB hV;have hbl:=h.lt';have hgl:=h.gl;have hmf:∀(fn:Fn) (first cap:Array Value) (w:World),(Instr.makeFunc fn first cap).run prog w= .ok (.func fn first cap) w:=fun _ _ _ _=>rfl;have S0:Hid (StQ W ((W.alloc (.cells #[.pointer (some ⟨bs,0,none⟩)] 113)).alloc (.cells zQu 36)) bs g cap ts k (quA false [] ⟨[],[]⟩) d2i d2i d2i d2i d2i d2i):=
  ⟨FrB.start W bs 36 zQu,h.bl (((Bl.refl W).alloc _).alloc _),⟨.nil _ _ _ _,.nil _ _ _ _,.nil _ _ _ _,.nil _ _ _ _,.nil _ _ _ _,.nil _ _ _ _⟩⟩
 clear h hT hV HR;go_enter func63,ntmps63;go_wp2_with fail;cases ht:bH ts k [d3h] with
 |none=>
  have HT9:=aB ht;have HE9:=aB (show R= .bad 261 from by rw[HRQ.o,ht]);clear ht;refine(d8q (S0).o.s [d3h] HT9.o _ 1 _ _ rfl rfl aa aa).mono ?_;rintro e w9 ⟨rfl,hg9,hs9⟩;go_wp2;exact⟨rfl,d2o.no ((S0).o.f.next hbl hg9).grown hs9 (.inr (.inl rfl)) HE9.o⟩
 |some k1=>
 have HT1:=aB ht;have HR1:=aB (HRQ.o.trans (by rw[ht]));clear ht HRQ;refine(d7j S0.o.s [d3h] HT1.o _ 1 _ _ rfl rfl aa aa).mono ?_;rintro e w1 ⟨rfl,hg1,hs1⟩;have S1:=aB (S0.o.next hbl hg1 hs1);have a0:=cK S1.o.f.r;clear hg1 hs1 S0;go_wp2_with fail;refine(e3x S1.o.s [d2s] _ 1 _ _ rfl rfl aa aa).mono ?_;rintro e w2 ⟨rfl,hg2,hs2⟩;have S2:=aB (S1.o.next hbl hg2 hs2);clear hg2 hs2 S1 a0;generalize (bH ts k1 [d2s]).isSome=d at *;generalize (bH ts k1 [d2s]).getD k1=kd at *;go_wp2_with (refine bA rfl rfl rfl rfl (quC (quA d [] ⟨[],[]⟩) d2i d2i d2i d2i d2i d2i) S2.o.f.x rfl rfl e3y rfl ?_)
 intro w3 hB3 hX3;have S3:Hid (StQ W w3 bs g cap ts kd (quA d [] ⟨[],[]⟩) d2i d2i d2i d2i d2i d2i):=S2.o.put hbl hgl hB3 hX3 ⟨.nil _ _ _ _,.nil _ _ _ _,.nil _ _ _ _,.nil _ _ _ _,.nil _ _ _ _,.nil _ _ _ _⟩;have a0:=cK S3.o.f.r;have hz3:=S3.o.f.size;clear hB3 hX3 S2;go_wp2_with fail;refine(e1v S3.o.s HTK.o).mono ?_;intro e w4 hp;obtain⟨hg4,k4,hs4,hcase⟩:=hp;have S4:=aB (S3.o.next hbl hg4 hs4);clear a0;rcases hcase with⟨items,v,hr4,hrow,rfl⟩|⟨c,hc,hr4,rfl⟩
 rotate_left
 ·have HE9:=aB (show R= .bad c from by rw[HR1.o];unfold d7m;rw[hr4];rfl);go_wp2;exact⟨rfl,d2o.no S4.o.f.grown S4.o.s hc HE9.o⟩
 obtain⟨ai,ci,rfl,-⟩:=hrow.shape;have HI4:=aB (show d2p fIt (fun b=>W.heap.size+2<=b) w4 (.slice ai items.length ci) items from hrow.of fun b _ (hb:_<=b)=>by omega);have HR4:=aB (show R=(match bH ts k4 [d5p] with
   |none=> .bad 261
   |some k3=>(d3b ts k3).bind fun k4 frm=>e6l ts (quA d items frm) k4:d2u Qu).bind d3d from by rw[HR1.o];unfold d7m;rw[hr4];rfl)
 clear hg4 hs4 hr4 hrow HR1 S3;go_wp2_with (refine bA rfl rfl rfl rfl (quC (quA d items ⟨[],[]⟩) (.slice ai items.length ci) d2i d2i d2i d2i d2i) S4.o.f.x rfl rfl e0r rfl ?_)
 intro w5 hB5 hX5;have S5:Hid (StQ W w5 bs g cap ts k4 (quA d items ⟨[],[]⟩) (.slice ai items.length ci) d2i d2i d2i d2i d2i):=S4.o.put hbl hgl hB5 hX5 ⟨HI4.o,.nil _ _ _ _,.nil _ _ _ _,.nil _ _ _ _,.nil _ _ _ _,.nil _ _ _ _⟩;have a0:=cK S5.o.f.r;clear hB5 hX5 S4 HI4;go_wp2_with fail;cases ht:bH ts k4 [d5p] with
 |none=>
  have HT9:=aB ht;have HE9:=aB (show R= .bad 261 from by rw[HR4.o,ht];rfl);clear ht;refine(d8q (S5).o.s [d5p] HT9.o _ 1 _ _ rfl rfl aa aa).mono ?_;rintro e w9 ⟨rfl,hg9,hs9⟩;go_wp2;exact⟨rfl,d2o.no ((S5).o.f.next hbl hg9).grown hs9 (.inr (.inl rfl)) HE9.o⟩
 |some k5=>
 have HT5:=aB ht;have HR5:=aB (show R=((d3b ts k5).bind fun k4 frm=>e6l ts (quA d items frm) k4).bind d3d from by rw[HR4.o,ht]);clear ht HR4;refine(d7j S5.o.s [d5p] HT5.o _ 1 _ _ rfl rfl aa aa).mono ?_;rintro e w6 ⟨rfl,hg6,hs6⟩;have S6:=aB (S5.o.next hbl hg6 hs6);clear hg6 hs6 S5 a0;have a0:=cK S6.o.f.r;go_wp2_with fail;refine(d7i S6.o.s).mono ?_;intro e w7 hp;obtain⟨hg7,k7,hs7,hcase⟩:=hp;have S7:=aB (S6.o.next hbl hg7 hs7);clear a0;rcases hcase with⟨frm,v,hr7,rfl,rfl⟩|⟨c,hc,hr7,rfl⟩
 rotate_left
 ·have HE9:=aB (show R= .bad c from by rw[HR5.o,hr7];rfl);go_wp2;exact⟨rfl,d2o.no S7.o.f.grown S7.o.s hc HE9.o⟩
 obtain⟨ft,fal⟩:=frm;obtain⟨RJ,HRJ⟩:∃RJ,Hid (RJ=d4u ts ts.length k7 []):=⟨_,rfl⟩
 have HR7:=aB (show R=(RJ.bind fun k' j=>e4d ts ⟨d,items,⟨ft,fal⟩,j,zeroE,[],zeroE,[],-1⟩ k').bind d3d from by rw[HR5.o,hr7,HRJ.o];rfl);clear hg7 hs7 hr7 HR5 S6;go_wp2_with (refine bA rfl rfl rfl rfl (quC (quA d items ⟨ft,fal⟩) (.slice ai items.length ci) d2i d2i d2i d2i d2i) S7.o.f.x rfl rfl d7e rfl ?_)
 intro w8 hB8 hX8;have S8:Hid (StQ W w8 bs g cap ts k7 (quA d items ⟨ft,fal⟩) (.slice ai items.length ci) d2i d2i d2i d2i d2i):=S7.o.put hbl hgl hB8 hX8 ⟨S7.o.p.items,.nil _ _ _ _,.nil _ _ _ _,.nil _ _ _ _,.nil _ _ _ _,.nil _ _ _ _⟩;have hz8:=S8.o.f.size;clear hB8 hX8 S7
 go_upto_block 0 with fail
 go_cut [] from 25 to 43 (fun wc=>∃(kj:Nat) (joins:List Jo) (si sj:Value),Hid (StQ W wc bs g cap ts kj ⟨d,items,⟨ft,fal⟩,joins,zeroE,[],zeroE,[],-1⟩ si sj d2i d2i d2i d2i)/\Hid (R=(e4d ts ⟨d,items,⟨ft,fal⟩,joins,zeroE,[],zeroE,[],-1⟩ kj).bind d3d))
 case first=>
  have HJ0:Hid (StJ W w8 bs g cap w8.heap.size ts k7 d items ⟨ft,fal⟩ (.slice ai items.length ci) d2i []):=⟨S8.o.f,S8.o.s,S8.o.p.items.of fun b hl hb=>⟨hb,hl⟩,d2l _ _ _ _,fun q hq=>(by cases hq),aH _⟩
  have HL0:=aB (show e2p ts RJ k7 [] from by rw[HRJ.o];exact e2p.start ts _);generalize hN:w8.heap.size=N at *;clear S8 hN;go_wp2_with fail;go_loopw [] (fun wr=>∃(v0:Value) (kk:Nat) (acc:List (Jo×Value)),acc.length<=kk/\Hid (StJ W wr bs g cap N ts kk d items ⟨ft,fal⟩ (.slice ai items.length ci) v0 acc)/\Hid (e2p ts RJ kk (acc.map (·.1)))) (fun wr=>ts.length-tH wr bs)
  case atStart=>exact⟨_,k7,[],dL _,HJ0.o,HL0.o⟩
  case round=>
   clear HJ0 HL0 HRJ;obtain⟨v0,kk,acc,hak,HJ,HL⟩:=hrel;have hkk:=HJ.o.s.lt;have hfew:=HJ.o.s.few;have hzr:=HJ.o.f.size;have a0:=cK HJ.o.f.r;have HST:=aB (HL.o.step hkk);cases ht:bH ts kk [d5v] with
   |none=>
    have HE:=aB (HST.o.1 ht);have HT:=aB ht;clear ht HST;go_wp2_with fail;refine(kM HJ.o.s [d5v] HT.o _ 1 _ _ rfl rfl aa aa).mono ?_;rintro e w9 ⟨rfl,hg9,hs9⟩;have HJ9:=aB (HJ.o.next hbl aE hg9 hs9);clear hg9 hs9 a0;go_wp2
    go_meet
    case rel=>
     refine⟨kk,acc.map (·.1),_,v0,⟨HJ9.o.f,HJ9.o.s,⟨HJ9.o.i.of fun b _ hb=>hb.1,d4k (F:=fJo) HJ9.o.o (fun b hb _=>by omega) (fun q hq=>(HJ9.o.r q hq).of fun b _ hb=>by have:=hb.1;omega),.nil _ _ _ _,.nil _ _ _ _,.nil _ _ _ _,.nil _ _ _ _⟩⟩,?_⟩;show R=_;rw[HR7.o,HE.o];rfl
   |some k1=>
    have hk1:=kS HTK.o hkk ht;have HG:=aB (HST.o.2 k1 ht hk1.1);have HT:=aB ht;clear ht HST;go_wp2_with fail;refine(jD HJ.o.s [d5v] HT.o _ 1 _ _ rfl rfl aa aa).mono ?_;rintro e w9 ⟨rfl,hg9,hs9⟩;have HJ9:=aB (HJ.o.next hbl aE hg9 hs9);clear hg9 hs9 a0;have a0:=cK HJ9.o.f.r;go_wp2_with fail;refine(d7i HJ9.o.s).mono ?_;intro e w10 hp;obtain⟨hg10,k10,hs10,hcase⟩:=hp;have HJ10:=aB (HJ9.o.next hbl aE hg10 hs10);clear a0;rcases hcase with⟨so,v,hr10,rfl,rfl⟩|⟨c,hc,hr10,rfl⟩
    rotate_left
    ·have HE9:=aB (show R= .bad c from by rw[HR7.o,HG.o.1 c (by unfold d5h;rw[hr10];rfl)];rfl);go_wp2;exact⟨rfl,d2o.no HJ10.o.f.grown HJ10.o.s hc HE9.o⟩
    obtain⟨jt,jal⟩:=so;have HS10:=aB hr10;have a0:=cK HJ10.o.f.r;have HB10:=aB ((Bl.refl w10).alloc (.cells #[S jt,S jal,.int .i64 0,.int .i64 0,.int .i64 0,S [],S [],S [],.int .i64 0,.slice none 0 0] 78));have HX10:=aB (aN w10 (.cells #[S jt,S jal,.int .i64 0,.int .i64 0,.int .i64 0,S [],S [],S [],.int .i64 0,.slice none 0 0] 78));have hz10:=HJ10.o.f.size;have hW10:W.heap.size<w10.heap.size:=aE;clear hg10 hs10 hr10;cases ht:bH ts k10 [wOn] with
    |none=>
     have HT9:=aB ht;have HE9:=aB (show R= .bad 261 from by rw[HR7.o,HG.o.1 261 (by unfold d5h;rw[HS10.o];simp only[d2u.bind];rw[ht])];rfl);clear ht;go_wp2_with fail;refine(d8q (HJ10.o.s.bl HB10.o) [wOn] HT9.o _ 1 _ _ rfl rfl aa aa).mono ?_;rintro e w11 ⟨rfl,hg11,hs11⟩;go_wp2;exact⟨rfl,d2o.no (((HJ10.o.bl HB10.o).f).next hbl hg11).grown hs11 (.inr (.inl rfl)) HE9.o⟩
    |some k11=>
    have HT11:=aB ht;clear ht;go_wp2_with fail;refine(d7j (HJ10.o.s.bl HB10.o) [wOn] HT11.o _ 1 _ _ rfl rfl aa aa).mono ?_;rintro e w11 ⟨rfl,hg11,hs11⟩;have HJ11:=aB ((HJ10.o.bl HB10.o).next hbl aE hg11 hs11);have HG11:=aB hg11;have HX11:=aB ((hg11.block w10.heap.size aa (fun e=>by injection e with e;omega)).trans HX10.o);have hz11:=(aC.1 HX11.o).1;clear hg11 hs11 a0;have a0:=cK HJ11.o.f.r;go_wp2_with fail;refine(d3w HJ11.o.s HTK.o).mono ?_;intro e w12 hp;obtain⟨hg12,k12,hs12,hcase⟩:=hp.openE;have HJ12:=aB (HJ11.o.next hbl aE hg12 hs12);have HX12:=aB ((hg12.block w10.heap.size hz11 (fun e=>by injection e with e;omega)).trans HX11.o);have hz12:=(aC.1 HX12.o).1;clear hp a0;rcases hcase with⟨xk,x1,x2,x3,xt,xn,xo,xa,asv,csv,hr12,hA,rfl⟩|⟨c,hc,hr12,rfl⟩
    rotate_left
    ·have HE9:=aB (show R= .bad c from by rw[HR7.o,HG.o.1 c (by unfold d5h;rw[HS10.o];simp only[d2u.bind];rw[HT11.o];simp only;rw[hr12])];rfl);go_wp2;exact⟨rfl,d2o.no HJ12.o.f.grown HJ12.o.s hc HE9.o⟩
    have hrJ:d5h ts k1= .good k12 ⟨⟨jt,jal⟩,.mk xk (x1,x2,x3) xt xn xo xa⟩:=(by unfold d5h;rw[HS10.o];simp only[d2u.bind];rw[HT11.o];simp only;rw[hr12]);have hk12:=d6k HTK.o hrJ;have HL12:=aB (HG.o.2 k12 _ hrJ hk12.1);have hlow:=aB HJ11.o.o.lt;have hzg:=hg12.4;have hz10N:=HJ10.o.z;have HA12:=aB (show bG (fun b=>N<=b/\some b≠v0.ownBlock/\b≠w10.heap.size) w12 (.slice asv xa.length csv) xa from hA.of fun b _ (hb:_<=b)=>⟨by omega,fun e=>by have:=(hlow.o b e.symm).2;omega,by omega⟩);have HQ10:=aB (show ∀q∈acc,bG (fun b=>(N<=b/\some b≠v0.ownBlock)/\b<w10.heap.size) w10 q.2 (Form.ex fJo q.1).args from fun q hq=>(HJ10.o.r q hq).of fun b hl hb=>⟨hb,hl⟩);have HQ12:=aB (show ∀q∈acc,bG (fun b=>(N<=b/\some b≠v0.ownBlock)/\b<w10.heap.size) w12 q.2 (Form.ex fJo q.1).args from fun q hq=>(((HQ10.o q hq).bl HB10.o).grown HG11.o (fun h=>by omega)).grown hg12 (fun h=>by omega));have hlow10:=aB HJ10.o.o.lt;clear hg12 hs12 hr12 hA hrJ HG HQ10;go_wp2_with (refine bA rfl rfl rfl rfl (Form.cells fJo ⟨⟨jt,jal⟩,.mk xk (x1,x2,x3) xt xn xo xa⟩ (.slice asv xa.length csv)) HX12.o rfl rfl d4b rfl ?_)
    intro w13 hB13 hX13;have hne:some w10.heap.size≠v0.ownBlock:=fun e=>(by have:=(hlow10.o _ e.symm).2;omega);have HF13:=aB (HJ12.o.f.but2 hB13 aE);have HS13:=aB (HJ12.o.s.but hB13 aE aE);have HI13:=aB (HJ12.o.i.but hB13 (fun i hi=>by omega));have HO13:=aB (d8t HJ12.o.o hB13 hne);have HQ13:=aB (show ∀q∈acc,bG (fun b=>N<=b/\some b≠v0.ownBlock) w13 q.2 (Form.ex fJo q.1).args from fun q hq=>((HQ12.o q hq).but hB13 (fun i hi=>by omega)).of fun b _ hb=>hb.1);have HA13:=aB (show bG (fun b=>N<=b/\some b≠v0.ownBlock) w13 (.slice asv xa.length csv) xa from(HA12.o.but hB13 (fun i hi=>hi.2.2)).of fun b _ hb=>⟨hb.1,hb.2.1⟩);have HX13:=aB (show w13.heap[w10.heap.size]?=some (.cells #[S jt,S jal,.int .i64 xk,.int .i64 x1,.int .i64 x2,S x3,S xt,S xn,.int .i64 xo,.slice asv xa.length csv] 78 (0,0)) from hX13);have c4:w13.cell? ⟨W.heap.size+1,4,none⟩=some v0:=(aG HF13.o.x 4).trans rfl;have HZ13:=aB hB13.size;have hlow13:=aB HO13.o.lt;clear hB13 hX13 hne HQ12 HA12;go_wp2_with (first |(refine wpList_load_row rfl 78 (.tmp 3) rfl w10.heap.size rfl 78 #[S jt,S jal,.int .i64 xk,.int .i64 x1,.int .i64 x2,S x3,S xt,S xn,.int .i64 xo,.slice asv xa.length csv] (0,0) _ HX13.o underlying78 rfl e3s ?_)|(at_builtin;refine d4o rfl (.tmp 39) (.tmp 41) rfl N v0 acc rfl (gY ((Bl.refl _).alloc _) HO13.o) w13.heap.size ⟨⟨jt,jal⟩,.mk xk (x1,x2,x3) xt xn xo xa⟩ asv xa.length csv rfl (aN w13 _) aE (by rw[aR];have:=HZ13.o;omega) ?_))
    intro v' w14 hown14 hg14 hat;have hz13:=HZ13.o;have HF14:=aB ((HF13.o.bl ((Bl.refl _).alloc _)).own hg14 (fun j e=>by have:=(hlow13.o j e).1;omega));have HS14:=aB ((HS13.o.bl ((Bl.refl _).alloc _)).keep (hg14.block _ ap (fun e=>by have:=(hlow13.o _ e.symm).1;omega)) (hg14.block _ ap (fun e=>by have:=(hlow13.o _ e.symm).1;omega)));have HI14:=aB ((HI13.o.bl ((Bl.refl _).alloc _)).keep hg14.4 (fun _ h=>h) fun b hp hl=>hg14.block b hl (fun e=>by have:=(hlow13.o _ e.symm).1;omega));have HQ14:=aB (show ∀q∈acc++[((⟨⟨jt,jal⟩,.mk xk (x1,x2,x3) xt xn xo xa⟩:Jo),.slice asv xa.length csv)],bG (fun b=>N<=b/\some b≠v'.ownBlock) w14 q.2 (Form.ex fJo q.1).args from fun q hq=>by rcases iX.1 hq with hq|hq;exact((HQ13.o q hq).bl ((Bl.refl _).alloc _)).own hg14 cQ;obtain rfl:=gQ.1 hq;exact(HA13.o.bl ((Bl.refl _).alloc _)).own hg14 cQ);obtain⟨gn,cn,rfl⟩:=nG hown14;have HO14:=aB hown14;have hz14:=HF14.o.size;have hzz14:=hg14.4;clear hown14 hg14 hat c4;go_wp2_with (refine bA rfl rfl rfl rfl (quC (quA d items ⟨ft,fal⟩) (.slice ai items.length ci) (.slice (some ⟨gn,0,none⟩) (acc.length+1) cn) d2i d2i d2i d2i) HF14.o.x rfl rfl e0q rfl ?_)
    intro w15 hB15 hX15;have hlo14:=HO14.o.lt;have hne15:some (W.heap.size+1)≠iB (.slice (some ⟨gn,0,none⟩) (acc.length+1) cn):=fun e=>(by have:=(hlo14 _ e.symm).1;omega);have HJ15:Hid (StJ W w15 bs g cap N ts k12 d items ⟨ft,fal⟩ (.slice ai items.length ci) (.slice (some ⟨gn,0,none⟩) (acc.length+1) cn) (acc++[((⟨⟨jt,jal⟩,.mk xk (x1,x2,x3) xt xn xo xa⟩:Jo),.slice asv xa.length csv)])):=
     ⟨HF14.o.but hB15 hX15,HS14.o.but hB15 aE aE,HI14.o.but hB15 (fun i hi=>by omega),by rw[bD];exact d8t HO14.o hB15 hne15,fun q hq=>(HQ14.o q hq).but hB15 (fun i hi=>by omega),by rw[hB15.size];rw[aR] at hzz14;omega⟩
    clear hB15 hX15 hlo14 hne15;go_wp2;go_roundw
    case rel=>exact⟨_,k12,_,by rw[bD];simp;omega,HJ15.o,by rw[kW];exact HL12.o⟩
    case measure=>have n1:=kY HJ.o.s;have n2:=kY HJ15.o.s;rw[n1,n2];omega
 case rest=>
  obtain⟨kj,joins,si,sj,SJ,HRJ2⟩:=hcut;clear HR7 HRJ S8 hz8 hz3;have hzj:=SJ.o.f.size;have a0:=cK SJ.o.f.r;go_wp2_with fail;refine(d8x (SJ).o.s [d6o] _ 1 _ _ rfl rfl aa aa).mono ?_;rintro e w9 ⟨b9,k9,rfl,hg9,hs9,ht9⟩;have S9:=aB ((SJ).o.next hbl hg9 hs9);have HT9:=aB ht9;have hz9:=S9.o.f.size;clear hg9 hs9 ht9 a0;have a0:=cK S9.o.f.r
  go_upto_if 47 with fail
  go_cut [] from 44 to 50 (fun wc=>∃(k':Nat) (wher:Ex) (sw:Value),Hid (StQ W wc bs g cap ts k' ⟨d,items,⟨ft,fal⟩,joins,wher,[],zeroE,[],-1⟩ si sj sw d2i d2i d2i)/\Hid (R=(e2o ts ⟨d,items,⟨ft,fal⟩,joins,wher,[],zeroE,[],-1⟩ k').bind d3d))
  case first=>
   rcases HT9.o with⟨rfl,ht⟩|⟨rfl,ht,rfl⟩
   rotate_left
   ·have HE:=aB (show R=(e2o ts ⟨d,items,⟨ft,fal⟩,joins,zeroE,[],zeroE,[],-1⟩ kj).bind d3d from by rw[HRJ2.o];unfold e4d d3s;rw[ht];rfl);clear ht;go_wp2
    go_meet
    case rel=>refine⟨kj,zeroE,d2i,S9.o,HE.o⟩
   obtain⟨k1,hk19⟩:∃k1,k1=k9:=⟨_,rfl⟩
   subst hk19;have HE:=aB (show R=((d3j ts k1).bind fun k' w=>e2o ts ⟨d,items,⟨ft,fal⟩,joins,w,[],zeroE,[],-1⟩ k').bind d3d from by rw[HRJ2.o];unfold e4d d3s;rw[ht]);clear ht;go_wp2_with fail;refine(d3w S9.o.s HTK.o).mono ?_;intro e w11 hp;obtain⟨hg11,k11,hs11,hcase⟩:=hp.openE;have S11:=aB (S9.o.next hbl hg11 hs11);clear hp a0;rcases hcase with⟨xk,x1,x2,x3,xt,xn,xo,xa,asv,csv,hr11,hA,rfl⟩|⟨c,hc,hr11,rfl⟩
   rotate_left
   ·have HE9:=aB (show R= .bad c from by rw[HE.o,hr11];rfl);clear hr11 hg11 hs11;go_wp2;exact⟨rfl,d2o.no S11.o.f.grown S11.o.s hc HE9.o⟩
   have HA:=aB (show bG (fun b=>W.heap.size+2<=b) w11 (.slice asv xa.length csv) xa from hA.of fun b _ (hb:_<=b)=>by omega);have HE2:=aB (show R=(e2o ts ⟨d,items,⟨ft,fal⟩,joins,.mk xk (x1,x2,x3) xt xn xo xa,[],zeroE,[],-1⟩ k11).bind d3d from by rw[HE.o,hr11];rfl);clear hg11 hs11 hr11 hA HE;go_wp2_with (refine bA rfl rfl rfl rfl (quC ⟨d,items,⟨ft,fal⟩,joins,.mk xk (x1,x2,x3) xt xn xo xa,[],zeroE,[],-1⟩ si sj (.slice asv xa.length csv) d2i d2i d2i) S11.o.f.x rfl rfl d4b rfl ?_)
   intro w12 hB12 hX12;have S12:=aB (S11.o.put (q':=⟨d,items,⟨ft,fal⟩,joins,.mk xk (x1,x2,x3) xt xn xo xa,[],zeroE,[],-1⟩) hbl hgl hB12 hX12 ⟨S11.o.p.items,S11.o.p.joins,HA.o,.nil _ _ _ _,.nil _ _ _ _,.nil _ _ _ _⟩);clear hB12 hX12;go_wp2
   go_meet
   case rel=>exact⟨k11,_,_,S12.o,HE2.o⟩
  case rest=>
  clear HRJ2 SJ hzj a0;obtain⟨kw,wher,sw,SW,HRW⟩:=hcut;have hzj:=SW.o.f.size;have a0:=cK SW.o.f.r;go_wp2_with fail;refine(d8x (SW).o.s [d4q,wBy] _ 2 _ _ rfl rfl aa aa).mono ?_;rintro e w9 ⟨b9,k9,rfl,hg9,hs9,ht9⟩;have S9:=aB ((SW).o.next hbl hg9 hs9);have HT9:=aB ht9;have hz9:=S9.o.f.size;clear hg9 hs9 ht9 a0;have a0:=cK S9.o.f.r
  go_upto_if 54 with fail
  go_cut [] from 51 to 66 (fun wc=>∃(k':Nat) (group:List Ex) (having:Ex) (sg sh:Value),Hid (StQ W wc bs g cap ts k' ⟨d,items,⟨ft,fal⟩,joins,wher,group,having,[],-1⟩ si sj sw sg sh d2i)/\Hid (R=(d9t ts ⟨d,items,⟨ft,fal⟩,joins,wher,group,having,[],-1⟩ k').bind d3d))
  case first=>
   rcases HT9.o with⟨rfl,ht⟩|⟨rfl,ht,rfl⟩
   rotate_left
   ·have HE:=aB (show R=(d9t ts ⟨d,items,⟨ft,fal⟩,joins,wher,[],zeroE,[],-1⟩ kw).bind d3d from by rw[HRW.o];unfold e2o d4v;rw[ht];rfl);clear ht;go_wp2
    go_meet
    case rel=>refine⟨kw,[],zeroE,d2i,d2i,S9.o,HE.o⟩
   obtain⟨k1,hk19⟩:∃k1,k1=k9:=⟨_,rfl⟩
   subst hk19;have HE:=aB (show R=((d3o ts (d3j ts) ts.length k1 []).bind fun k' g=>(d5u ts g k').bind fun k2 h=>d9t ts ⟨d,items,⟨ft,fal⟩,joins,wher,g,h,[],-1⟩ k2).bind d3d from by rw[HRW.o];unfold e2o d4v;rw[ht]);clear ht;go_wp2_with fail;refine(e1w S9.o.s HTK.o).mono ?_;intro e w11 hp;obtain⟨hg11,k11,hs11,hcase⟩:=hp;have S11:=aB (S9.o.next hbl hg11 hs11);clear a0;rcases hcase with⟨l,v,hr11,hrow,rfl⟩|⟨c,hc,hr11,rfl⟩
   rotate_left
   ·have HE9:=aB (show R= .bad c from by rw[HE.o,hr11];rfl);clear hr11 hg11 hs11;go_wp2;exact⟨rfl,d2o.no S11.o.f.grown S11.o.s hc HE9.o⟩
   obtain⟨al,cl,rfl,-⟩:=hrow.shape;have HL11:=aB (show d2p fEx (fun b=>W.heap.size+2<=b) w11 (.slice al l.length cl) l from hrow.of fun b _ (hb:_<=b)=>by omega);clear hg11 hs11 hrow;go_wp2_with (refine bA rfl rfl rfl rfl (quC ⟨d,items,⟨ft,fal⟩,joins,wher,l,zeroE,[],-1⟩ si sj sw (.slice al l.length cl) d2i d2i) S11.o.f.x rfl rfl d8o rfl ?_)
   intro w12 hB12 hX12;have S12:Hid (StQ W w12 bs g cap ts k11 ⟨d,items,⟨ft,fal⟩,joins,wher,l,zeroE,[],-1⟩ si sj sw (.slice al l.length cl) d2i d2i):=S11.o.put hbl hgl hB12 hX12 ⟨S11.o.p.items,S11.o.p.joins,S11.o.p.wher,e3a HL11.o,.nil _ _ _ _,.nil _ _ _ _⟩;clear hB12 hX12;have a0:=cK S12.o.f.r;have hne:=e0w hr11;have HG:=aB (show R=((d3s ts d3v k11).bind fun k2 h=>d9t ts ⟨d,items,⟨ft,fal⟩,joins,wher,l,h,[],-1⟩ k2).bind d3d from by rw[HE.o,hr11];simp only[d2u.bind];unfold d5u;rw[if_neg hne]);clear hr11 hne HE;cases ht:bH ts k11 [d3v] with
   |none=>
    have HE:=aB (show R=(d9t ts ⟨d,items,⟨ft,fal⟩,joins,wher,l,zeroE,[],-1⟩ k11).bind d3d from by rw[HG.o];unfold d3s;rw[ht];rfl);have HT:=aB ht;clear ht;go_wp2_with fail;refine(kM (S12).o.s [d3v] HT.o _ 1 _ _ rfl rfl aa aa).mono ?_;rintro e w9 ⟨rfl,hg9,hs9⟩;have S9:=aB ((S12).o.next hbl hg9 hs9);clear hg9 hs9 a0;go_wp2
    go_meet
    case rel=>refine⟨k11,l,zeroE,_,d2i,S9.o,HE.o⟩
   |some k1=>
    have HE:=aB (show R=((d3j ts k1).bind fun k' h=>d9t ts ⟨d,items,⟨ft,fal⟩,joins,wher,l,h,[],-1⟩ k').bind d3d from by rw[HG.o];unfold d3s;rw[ht]);clear HG;have HT:=aB ht;clear ht;go_wp2_with fail;refine(jD (S12).o.s [d3v] HT.o _ 1 _ _ rfl rfl aa aa).mono ?_;rintro e w9 ⟨rfl,hg9,hs9⟩;have S9:=aB ((S12).o.next hbl hg9 hs9);have hz9:=S9.o.f.size;clear hg9 hs9 a0;have a0:=cK S9.o.f.r;go_wp2_with fail;refine(d3w S9.o.s HTK.o).mono ?_;intro e w11 hp;obtain⟨hg11,k11,hs11,hcase⟩:=hp.openE;have S11:=aB (S9.o.next hbl hg11 hs11);clear hp a0;rcases hcase with⟨xk,x1,x2,x3,xt,xn,xo,xa,asv,csv,hr11,hA,rfl⟩|⟨c,hc,hr11,rfl⟩
    rotate_left
    ·have HE9:=aB (show R= .bad c from by rw[HE.o,hr11];rfl);clear hr11 hg11 hs11;go_wp2;exact⟨rfl,d2o.no S11.o.f.grown S11.o.s hc HE9.o⟩
    have HA:=aB (show bG (fun b=>W.heap.size+2<=b) w11 (.slice asv xa.length csv) xa from hA.of fun b _ (hb:_<=b)=>by omega);have HE2:=aB (show R=(d9t ts ⟨d,items,⟨ft,fal⟩,joins,wher,l,.mk xk (x1,x2,x3) xt xn xo xa,[],-1⟩ k11).bind d3d from by rw[HE.o,hr11];rfl);clear hg11 hs11 hr11 hA HE;go_wp2_with (refine bA rfl rfl rfl rfl (quC ⟨d,items,⟨ft,fal⟩,joins,wher,l,.mk xk (x1,x2,x3) xt xn xo xa,[],-1⟩ si sj sw (.slice al l.length cl) (.slice asv xa.length csv) d2i) S11.o.f.x rfl rfl d4b rfl ?_)
    intro w12 hB12 hX12;have S12:=aB (S11.o.put (q':=⟨d,items,⟨ft,fal⟩,joins,wher,l,.mk xk (x1,x2,x3) xt xn xo xa,[],-1⟩) hbl hgl hB12 hX12 ⟨S11.o.p.items,S11.o.p.joins,S11.o.p.wher,S11.o.p.group,HA.o,.nil _ _ _ _⟩);clear hB12 hX12;go_wp2
    go_meet
    case rel=>exact⟨k11,_,_,_,_,S12.o,HE2.o⟩
  case rest=>
  clear HRW SW hzj a0;obtain⟨kh,group,having,sg,sh,SH,HRH⟩:=hcut;have hzj:=SH.o.f.size;have a0:=cK SH.o.f.r;go_wp2_with fail;refine(d8x (SH).o.s [d5n,wBy] _ 2 _ _ rfl rfl aa aa).mono ?_;rintro e w9 ⟨b9,k9,rfl,hg9,hs9,ht9⟩;have S9:=aB ((SH).o.next hbl hg9 hs9);have HT9:=aB ht9;have hz9:=S9.o.f.size;clear hg9 hs9 ht9 a0;have a0:=cK S9.o.f.r
  go_upto_if 70 with fail
  go_cut [] from 67 to 75 (fun wc=>∃(k':Nat) (orders:List Od) (so:Value),Hid (StQ W wc bs g cap ts k' ⟨d,items,⟨ft,fal⟩,joins,wher,group,having,orders,-1⟩ si sj sw sg sh so)/\Hid (R=(e4g ts ⟨d,items,⟨ft,fal⟩,joins,wher,group,having,orders,-1⟩ k').bind d3d))
  case first=>
   rcases HT9.o with⟨rfl,ht⟩|⟨rfl,ht,rfl⟩
   rotate_left
   ·have HE:=aB (show R=(e4g ts ⟨d,items,⟨ft,fal⟩,joins,wher,group,having,[],-1⟩ kh).bind d3d from by rw[HRH.o];unfold d9t d5s;rw[ht];rfl);clear ht;go_wp2
    go_meet
    case rel=>refine⟨kh,[],d2i,S9.o,HE.o⟩
   obtain⟨k1,hk19⟩:∃k1,k1=k9:=⟨_,rfl⟩
   subst hk19;have HE:=aB (show R=((d3o ts (d3f ts) ts.length k1 []).bind fun k' o=>e4g ts ⟨d,items,⟨ft,fal⟩,joins,wher,group,having,o,-1⟩ k').bind d3d from by rw[HRH.o];unfold d9t d5s;rw[ht]);clear ht;go_wp2_with fail;refine(e1u S9.o.s HTK.o).mono ?_;intro e w11 hp;obtain⟨hg11,k11,hs11,hcase⟩:=hp;have S11:=aB (S9.o.next hbl hg11 hs11);clear a0;rcases hcase with⟨l,v,hr11,hrow,rfl⟩|⟨c,hc,hr11,rfl⟩
   rotate_left
   ·have HE9:=aB (show R= .bad c from by rw[HE.o,hr11];rfl);clear hr11 hg11 hs11;go_wp2;exact⟨rfl,d2o.no S11.o.f.grown S11.o.s hc HE9.o⟩
   obtain⟨al,cl,rfl,-⟩:=hrow.shape;have HL11:=aB (show d2p fOd (fun b=>W.heap.size+2<=b) w11 (.slice al l.length cl) l from hrow.of fun b _ (hb:_<=b)=>by omega);clear hg11 hs11 hrow;go_wp2_with (refine bA rfl rfl rfl rfl (quC ⟨d,items,⟨ft,fal⟩,joins,wher,group,having,l,-1⟩ si sj sw sg sh (.slice al l.length cl)) S11.o.f.x rfl rfl e0p rfl ?_)
   intro w12 hB12 hX12;have S12:Hid (StQ W w12 bs g cap ts k11 ⟨d,items,⟨ft,fal⟩,joins,wher,group,having,l,-1⟩ si sj sw sg sh (.slice al l.length cl)):=S11.o.put hbl hgl hB12 hX12 ⟨S11.o.p.items,S11.o.p.joins,S11.o.p.wher,S11.o.p.group,S11.o.p.having,HL11.o⟩;clear hB12 hX12;have a0:=cK S12.o.f.r;have HE2:=aB (show R=(e4g ts ⟨d,items,⟨ft,fal⟩,joins,wher,group,having,l,-1⟩ k11).bind d3d from by rw[HE.o,hr11];rfl);clear hr11 HE;go_wp2
   go_meet
   case rel=>exact⟨k11,_,_,S12.o,HE2.o⟩
  case rest=>
  clear HRH SH hzj a0;obtain⟨ko,orders,so,SO,HRO⟩:=hcut;have hzj:=SO.o.f.size;have a0:=cK SO.o.f.r;go_wp2_with fail;refine(d8x (SO).o.s [d6p] _ 1 _ _ rfl rfl aa aa).mono ?_;rintro e w9 ⟨b9,k9,rfl,hg9,hs9,ht9⟩;have S9:=aB ((SO).o.next hbl hg9 hs9);have HT9:=aB ht9;have hz9:=S9.o.f.size;clear hg9 hs9 ht9 a0;have a0:=cK S9.o.f.r
  go_upto_if 79 with fail
  go_cut [] from 76 to 98 (fun wc=>∃(k':Nat) (lim:Int),Hid (StQ W wc bs g cap ts k' ⟨d,items,⟨ft,fal⟩,joins,wher,group,having,orders,lim⟩ si sj sw sg sh so)/\Hid (R=d3d k' ⟨d,items,⟨ft,fal⟩,joins,wher,group,having,orders,lim⟩))
  case first=>
   rcases HT9.o with⟨rfl,ht⟩|⟨rfl,ht,rfl⟩
   rotate_left
   ·have HE:=aB (show R=d3d ko ⟨d,items,⟨ft,fal⟩,joins,wher,group,having,orders,-1⟩ from by rw[HRO.o];unfold e4g d8h;rw[ht];rfl);clear ht;go_wp2
    go_meet
    case rel=>refine⟨ko,-1,S9.o,HE.o⟩
   obtain⟨k1,hk19⟩:∃k1,k1=k9:=⟨_,rfl⟩
   subst hk19;have HT:=aB ht;have HL1:=aB (show R=((match ts[k1]? with
    |none=> .bad 261
    |some x=>if x.v.1=2 then .good (fT ts.length k1) x.v.2.1 else .bad 261:d2u Int).bind fun k' l=> .good k' ⟨d,items,⟨ft,fal⟩,joins,wher,group,having,orders,l⟩).bind d3d from by rw[HRO.o];unfold e4g d8h;rw[ht];rfl)
   clear ht;have hy:ts[k1]?=some (ts[k1]'S9.o.s.lt):=aP S9.o.s.lt;have hmv:=HV.o _ (dS S9.o.s.lt);generalize ts[k1]'S9.o.s.lt=y at hy hmv;have HY:=aB hy;have HL2:=aB (show R=((if y.v.1=2 then .good (fT ts.length k1) y.v.2.1 else .bad 261:d2u Int).bind fun k' l=> .good k' ⟨d,items,⟨ft,fal⟩,joins,wher,group,having,orders,l⟩).bind d3d from by rw[HL1.o,hy]);clear hy HL1;have hfld:∀(w:World),Sem.run prog (Instr.field 66 (TVt y) 3) w= .ok (.agg #[.int .i64 y.v.1,.int .i64 y.v.2.1,S y.v.2.2]) w:=fun _=>rfl;have hfld2:∀(w:World),Sem.run prog (Instr.field 29 (.agg #[.int .i64 y.v.1,.int .i64 y.v.2.1,S y.v.2.2]) 1) w= .ok (.int .i64 y.v.2.1) w:=fun _=>rfl;obtain⟨tk,tp,tt,ta,tb,tc⟩:=y;simp only at hmv hfld hfld2;go_wp2_with fail
   (with_reducible refine(rH S9.o.s HY.o).mono ?_)
   rintro e w10 ⟨rfl,hb10⟩;have S10:=aB (S9.o.bl hb10);clear hb10 a0;have hW10:W.heap.size<w10.heap.size:=(by have:=S10.o.f.size;omega);have a0:=cK S10.o.f.r;by_cases h2:ta=2
   ·have hk2:=hmv h2;subst h2 hk2;have HE:=aB (show R=d3d (fT ts.length k1) ⟨d,items,⟨ft,fal⟩,joins,wher,group,having,orders,tb⟩ from by rw[HL2.o];rfl);clear HL2 hmv;go_wp2_with fail
    (with_reducible refine(d5e _ _).mono ?_)
    rintro e w' ⟨rfl,rfl⟩;have S11:=aB (S10.o.bl ((Bl.refl w10).alloc (.cells #[.int .i64 2,.int .i64 tp,S tt,.int .i64 2,.int .i64 tb,S tc] 66)));go_wp2_with fail
    (with_reducible refine(yY S11.o.s HY.o).mono ?_)
    rintro e w12 ⟨rfl,hg12,hs12⟩;have S12:=aB (S11.o.next hbl hg12 hs12);clear hg12 hs12;go_wp2_with (refine bA rfl rfl rfl rfl (quC ⟨d,items,⟨ft,fal⟩,joins,wher,group,having,orders,tb⟩ si sj sw sg sh so) S12.o.f.x rfl rfl e3v rfl ?_)
    intro w13 hB13 hX13;have S13:=aB (S12.o.put (q':=⟨d,items,⟨ft,fal⟩,joins,wher,group,having,orders,tb⟩) hbl hgl hB13 hX13 ⟨S12.o.p.items,S12.o.p.joins,S12.o.p.wher,S12.o.p.group,S12.o.p.having,S12.o.p.orders⟩);clear hB13 hX13;go_wp2
    go_meet
    case rel=>exact⟨_,tb,S13.o,HE.o⟩
   ·have HE9:=aB (show R= .bad 261 from by rw[HL2.o,if_neg h2];rfl);have hb2:(ta==2)=false:=cF;clear HL2 hmv;by_cases hk:tk=2
    ·subst hk;go_wp2_with fail
     (with_reducible refine(d3t _ _).mono ?_)
     rintro e w' ⟨rfl,rfl⟩;go_wp2;exact⟨rfl,d2o.no (S10.o.bl ((Bl.refl w10).alloc _)).f.grown (S10.o.bl ((Bl.refl w10).alloc _)).s (.inr (.inl rfl)) HE9.o⟩
    ·have hbk:(tk==2)=false:=by simpa using hk
     go_wp2_with fail
     (with_reducible refine(d3t _ _).mono ?_)
     rintro e w' ⟨rfl,rfl⟩;go_wp2;exact⟨rfl,d2o.no (S10.o.bl ((Bl.refl w10).alloc _)).f.grown (S10.o.bl ((Bl.refl w10).alloc _)).s (.inr (.inl rfl)) HE9.o⟩
  case rest=>
  clear HRO SO hzj a0;obtain⟨kl,lim,SL,HRL⟩:=hcut;obtain⟨ai,ci,rfl,-⟩:=SL.o.p.items.shape;obtain⟨aj,cj,rfl,-⟩:=SL.o.p.joins.shape;obtain⟨ag,cg,rfl⟩:=SL.o.p.group.shape;obtain⟨ao,co,rfl,-⟩:=SL.o.p.orders.shape;simp only at SL;have c1:wc.cell? ⟨W.heap.size+1,1,none⟩=some (.slice ai items.length ci):=(aG SL.o.f.x 1).trans rfl;have c4:wc.cell? ⟨W.heap.size+1,4,none⟩=some (.slice aj joins.length cj):=(aG SL.o.f.x 4).trans rfl;have c13:wc.cell? ⟨W.heap.size+1,13,none⟩=some (.slice ag group.length cg):=(aG SL.o.f.x 13).trans rfl;have c22:wc.cell? ⟨W.heap.size+1,22,none⟩=some (.slice ao orders.length co):=(aG SL.o.f.x 22).trans rfl;have HONE:=aB SL.o.p.one;by_cases h1:items.length<=32;rotate_left
  ·skip
   have HE9:=aB (show R= .bad 270 from by rw[HRL.o];unfold d3d d7t;rw[if_pos ak]);have hn:¬(items.length:Int)<=32:=aE;have hd:decide ((items.length:Int)<=32)=false:=ak;go_wp2_with fail
   (with_reducible refine(d3t _ _).mono ?_)
   rintro e w' ⟨rfl,rfl⟩;go_wp2;exact⟨rfl,d2o.no SL.o.f.grown SL.o.s (.inr (.inr rfl)) HE9.o⟩
  by_cases h2:joins.length<=4;rotate_left
  ·skip
   have HE9:=aB (show R= .bad 270 from by rw[HRL.o];unfold d3d d7t;rw[if_pos ak]);have hn:¬(joins.length:Int)<=4:=aE;have hd:decide ((joins.length:Int)<=4)=false:=ak;go_wp2_with fail
   (with_reducible refine(d3t _ _).mono ?_)
   rintro e w' ⟨rfl,rfl⟩;go_wp2;exact⟨rfl,d2o.no SL.o.f.grown SL.o.s (.inr (.inr rfl)) HE9.o⟩
  by_cases h3:group.length<=8;rotate_left
  ·skip
   have HE9:=aB (show R= .bad 270 from by rw[HRL.o];unfold d3d d7t;rw[if_pos ak]);have hn:¬(group.length:Int)<=8:=aE;have hd:decide ((group.length:Int)<=8)=false:=ak;go_wp2_with fail
   (with_reducible refine(d3t _ _).mono ?_)
   rintro e w' ⟨rfl,rfl⟩;go_wp2;exact⟨rfl,d2o.no SL.o.f.grown SL.o.s (.inr (.inr rfl)) HE9.o⟩
  by_cases h4:orders.length<=8;rotate_left
  ·skip
   have HE9:=aB (show R= .bad 270 from by rw[HRL.o];unfold d3d d7t;rw[if_pos ak]);have hn:¬(orders.length:Int)<=8:=aE;have hd:decide ((orders.length:Int)<=8)=false:=ak;go_wp2_with fail
   (with_reducible refine(d3t _ _).mono ?_)
   rintro e w' ⟨rfl,rfl⟩;go_wp2;exact⟨rfl,d2o.no SL.o.f.grown SL.o.s (.inr (.inr rfl)) HE9.o⟩
  have HE:=aB (show R= .good kl ⟨d,items,⟨ft,fal⟩,joins,wher,group,having,orders,lim⟩ from by rw[HRL.o];unfold d3d d7t;rw[if_neg ak]);have h1':(items.length:Int)<=32:=aE;have h2':(joins.length:Int)<=4:=aE;have h3':(group.length:Int)<=8:=aE;have h4':(orders.length:Int)<=8:=aE;clear h1 h2 h3 h4;go_wp2_with fail
  (with_reducible refine(d5e _ _).mono ?_)
  rintro e w' ⟨rfl,rfl⟩;go_wp2_with (first |(refine wpList_load_row rfl 36 (.tmp 2) rfl (W.heap.size+1) rfl 36 _ (0,0) _ SL.o.f.x underlying36 rfl tC ?_)|(refine bA rfl rfl rfl rfl (quC ⟨d,items,⟨ft,fal⟩,joins,wher,group,having,orders,lim⟩ (.slice ai items.length ci) (.slice aj joins.length cj) sw (.slice ag group.length cg) sh (.slice ao orders.length co)) SL.o.f.x rfl rfl tC HONE.o ?_))
  intro w9 hB9 hX9;have S9:=aB (SL.o.put hbl hgl hB9 hX9 SL.o.p);go_wp2;refine bodyPost_ret (v:=QV ⟨d,items,⟨ft,fal⟩,joins,wher,group,having,orders,lim⟩ (.slice ai items.length ci) (.slice aj joins.length cj) sw (.slice ag group.length cg) sh (.slice ao orders.length co)) (results_cell_row (p:=2) (ty:=36) rfl _ _ (W.heap.size+1) 36 _ (0,0) _ rfl hX9 underlying36 rfl tC) rfl ?_;exact d2o.yes S9.o.f.grown S9.o.s HE.o ⟨_,_,_,_,_,_,rfl,S9.o.p.of fun b _ hb=>by omega⟩
end
section
section
variable {P:Program}
theorem d2v{fn:Func}{p:Tmp}{ty:TypeId}{q:Tmp}(h:fn.results= #[.cell p ty,.tmp q])(tmps:Array Value)(w:World)(g:Nat)(t:TypeId)(cs:Array Value)(d:TypeDesc)
  (hp:tmps.getD p undef= .pointer (some ⟨g,0,none⟩)) (hg:w.heap[g]?=some (.cells cs t (0,0))) (hu:P.underlying ty=some d) (hd:(match d with | .struct _| .array _ _=>true|_=>false)=true) (hi:(P.info? ty).map (·.size)=some cs.size):(results fn tmps).run P w= .ok (.tuple #[.agg cs,tmps.getD q undef]) w:=by
 have hp':tmps[p]?.getD undef= .pointer (some ⟨g,0,none⟩):=cf;have hl:=run_loadVar_row w g t ty cs (0,0) d hg hu eh hi;simp[results,h,hp',asAddr,hl]
theorem d4s{fn:Func}{p:Tmp}{ty:TypeId}{q:Tmp}{u:TypeId}(h:fn.results= #[.cell p ty,.cell q u])(tmps:Array Value)(w:World)(g:Nat)(t:TypeId)(cs:Array Value)(d:TypeDesc)(a:Addr)(v:Value)
  (hp:tmps.getD p undef= .pointer (some ⟨g,0,none⟩)) (hg:w.heap[g]?=some (.cells cs t (0,0))) (hu:P.underlying ty=some d) (hd:(match d with | .struct _| .array _ _=>true|_=>false)=true) (hi:(P.info? ty).map (·.size)=some cs.size)
  (hq:tmps.getD q undef= .pointer (some a)) (hr:(loadVar u a).run P w= .ok v w):(results fn tmps).run P w= .ok (.tuple #[.agg cs,v]) w:=by
 have hp':tmps[p]?.getD undef= .pointer (some ⟨g,0,none⟩):=cf;have hq':tmps[q]?.getD undef= .pointer (some a):=(by simpa using hq);have hl:=run_loadVar_row w g t ty cs (0,0) d hg hu eh hi;simp[results,h,hp',hq',asAddr,hl,hr]
end
abbrev zQ0:List Value:=[.bool false,.slice none 0 0,S [],S [],.slice none 0 0,.int .i64 0,.int .i64 0,.int .i64 0,S [],S [],S [],.int .i64 0,.slice none 0 0,.slice none 0 0,.int .i64 0,.int .i64 0,.int .i64 0,S [],S [],S [],.int .i64 0,.slice none 0 0,.slice none 0 0,.int .i64 0]
abbrev zQV:Value:=QV d3z d2i d2i d2i d2i d2i d2i
theorem e2e{A:World}{bs g cap k k0 X Sb Wb:Nat}{ts:List Tok}{cs:List Value}(hs:iV A bs g cap ts k)(hk:k0<ts.length)(hl:cs.length=24)(hX:A.heap[X]?=some (.cells cs.toArray 36 (0,0)))(hS:A.heap[Sb]?=some (.cells #[.pointer (some ⟨bs,0,none⟩)] 47 (0,0)))(hW:A.heap[Wb]?=some (.cells #[.int .i64 (k0:Int)] 3 (0,0)))
  (h1:X≠Sb) (h2:X≠Wb) (h3:bs≠X) (h4:g≠X):
  fb 62 #[.pointer (some ⟨X,0,none⟩),.pointer (some ⟨Sb,0,none⟩),.pointer (some ⟨Wb,0,none⟩)] A fun e w'=>e= .returned (.tuple #[])/\∃B,But X A B/\B.heap[X]?=some (.cells zQ0.toArray 36 (0,0))/\B.grownBy w' (some bs)/\iV w' bs g cap ts k0:=by
 have HS:=aB hs;have HX:=aB hX;have HK:=aB hk;have H1:=aB (bT hS hW);have HN:=aB (show(cs.take 0++zQ0++cs.drop (0+zQ0.length))=zQ0 from by rw[List.take_zero,cB,List.drop_eq_nil_of_le (by rw[hl];exact aH _),List.append_nil]);have HL:=aB (show decide (0+zQ0.length<=cs.length)=true from by rw[hl];rfl);clear hs hX hk hS hW hl;go_enter func62,ntmps62;go_wp2_with (refine bA rfl rfl rfl rfl zQ0 HX.o HN.o HL.o tC rfl ?_)
 intro B hB hXB;have c1:=cK ((hB.same _ (Ne.symm h1)).trans H1.o.1);have c2:=cK ((hB.same _ (Ne.symm h2)).trans H1.o.2);have HB:=aB (bT hB hXB);have HSB:=aB (HS.o.but hB h3 h4);clear hB hXB;go_wp2_with fail;refine(b4r HSB.o (k0:Int)).mono ?_;rintro e w' ⟨hg,(⟨-,-,rfl,hs⟩|⟨hn,-,-⟩)⟩
 ·rw[Int.toNat_natCast] at hs;go_wp2;go_end0;exact⟨rfl,B,HB.o.1,HB.o.2,hg,hs⟩
 ·exact absurd ⟨by omega,by have:=HK.o;omega⟩ hn
theorem d9a(args:Array Value)(w:World):(callFunc 62 args).run prog w= .ok (.enter 62 args) w:=by
 simp[go_sem]
def e7d(bs g cap:Nat)(ts:List Tok)(k:Nat)(W:World)(e:Ending)(w':World):Prop:=
 W.grownBy w' (some bs)/\((∃k' q v,d5c ts k= .good k' q/\iV w' bs g cap ts k'/\e4e W.heap.size w' q v/\e= .returned (.tuple #[v,.int .i64 0]))\/
  (∃c,(c=260\/c=261\/c=270)/\d5c ts k= .bad c/\iV w' bs g cap ts k/\e= .returned (.tuple #[zQV,.int .i64 c])))
structure FrD(W A:World)(bs k:Nat)(T:TypeId)(cs:Array Value):Prop where
 grown:W.grownBy A (some bs)
 s:A.heap[W.heap.size]?=some (.cells #[.pointer (some ⟨bs,0,none⟩)] 47 (0,0))
 x:A.heap[W.heap.size+1]?=some (.cells cs T (0,0))
 e:A.heap[W.heap.size+2]?=some (.cells #[.int .i64 0] 39 (0,0))
 q:A.heap[W.heap.size+3]?=some (.cells #[.int .i64 (k:Int)] 3 (0,0))
theorem FrD.size{W A:World}{bs k:Nat}{T:TypeId}{cs:Array Value}(h:FrD W A bs k T cs):W.heap.size+3<A.heap.size:=(aC.1 h.q).1
theorem FrD.next{W A B:World}{bs k:Nat}{T:TypeId}{cs:Array Value}(h:FrD W A bs k T cs)(hb:bs<W.heap.size)(hg:A.grownBy B (some bs)):FrD W B bs k T cs:=
 have hz:=h.size
 ⟨dA h.grown hg,(hg.block _ aE (fun e=>by injection e with e;omega)).trans h.s,(hg.block _ aE (fun e=>by injection e with e;omega)).trans h.x,(hg.block _ aE (fun e=>by injection e with e;omega)).trans h.e,(hg.block _ aE (fun e=>by injection e with e;omega)).trans h.q⟩
theorem FrD.start(W:World)(bs k:Nat)(T:TypeId)(cs:Array Value):FrD W ((((W.alloc (.cells #[.pointer (some ⟨bs,0,none⟩)] 47)).alloc (.cells cs T)).alloc (.cells #[.int .i64 0] 39)).alloc (.cells #[.int .i64 (k:Int)] 3)) bs k T cs:=
 ⟨gI ((((Bl.refl W).alloc _).alloc _).alloc _ |>.alloc _) _,(aW _ _ (by simp<;>omega)).trans (uA _ _ _ _),(aW _ _ (by simp<;>omega)).trans (oZ _ _ _ _),(aW _ _ aa).trans (aV _ _ aa),aV _ _ aa⟩
theorem e3m{W:World}{bs g cap k:Nat}{ts:List Tok}(h:iV W bs g cap ts k)(hT:lC ts)(hV:e6m ts):fb 19 #[.pointer (some ⟨bs,0,none⟩)] W (e7d bs g cap ts k W):=by
 have H:=aB h;have HT:=aB hT;have HV:=aB hV;have hbl:=h.lt';have hgl:=h.gl;have hmf:∀(fn:Fn) (first cap:Array Value) (w:World),(Instr.makeFunc fn first cap).run prog w= .ok (.func fn first cap) w:=fun _ _ _ _=>rfl;have HF0:=aB (FrD.start W bs k 36 zQ0.toArray);have HB0:=aB (((Bl.refl W).alloc (.cells #[.pointer (some ⟨bs,0,none⟩)] 47)).alloc (.cells zQ0.toArray 36) |>.alloc (.cells #[.int .i64 0] 39));clear h hT hV
 go_enter_defers func19,ntmps19
 go_wp2_with fail
 (with_reducible refine(b9a (H.o.bl HB0.o)).mono ?_)
 rintro e w1 ⟨rfl,rfl⟩;go_wp2_with fail;refine(e1s ((H.o.bl HB0.o).bl ((Bl.refl _).alloc _)) HT.o HV.o).mono ?_;intro e w5 hp;obtain⟨hg5,k5,hs5,hcase⟩:=hp;have HF5:=aB (HF0.o.next hbl hg5);have HS5:=aB hs5;have hz5:=HF5.o.size;have c0:=cK HF5.o.e;have z0:w5.frozen? ⟨W.heap.size+2,0,none⟩=false:=aJ HF5.o.e 0;rcases hcase with⟨q,v,hr5,hq5,rfl⟩|⟨c,hc,hr5,rfl⟩
 rotate_left
 ·have HR5:=aB hr5;have HC:=aB hc;clear hg5 hs5 hr5 hc;go_wp2_with fail;refine leaves_cons (f:=51) (args:= #[.pointer (some ⟨W.heap.size+2,0,none⟩),.func (.func 62) #[] #[.pointer (some ⟨W.heap.size+1,0,none⟩),.pointer (some ⟨W.heap.size,0,none⟩),.pointer (some ⟨W.heap.size+3,0,none⟩)]]) aa am ?_;have hclear:=e2e (A:=w5.setCell ⟨W.heap.size+2,0,none⟩ (.int .i64 c)) (X:=W.heap.size+1) (Sb:=W.heap.size) (Wb:=W.heap.size+3) (HS5.o.set1 aE aE _ _) H.o.lt rfl ((aM _ ⟨W.heap.size+2,0,none⟩ _ _ dt).trans HF5.o.x) ((aM _ ⟨W.heap.size+2,0,none⟩ _ _ fX).trans HF5.o.s) ((aM _ ⟨W.heap.size+2,0,none⟩ _ _ (by show W.heap.size+3≠W.heap.size+2;omega)).trans HF5.o.q) aE aE aE aE;refine(d8s ⟨W.heap.size+2,0,none⟩ 0 c 62 #[] #[.pointer (some ⟨W.heap.size+1,0,none⟩),.pointer (some ⟨W.heap.size,0,none⟩),.pointer (some ⟨W.heap.size+3,0,none⟩)] #[.pointer (some ⟨W.heap.size+1,0,none⟩),.pointer (some ⟨W.heap.size,0,none⟩),.pointer (some ⟨W.heap.size+3,0,none⟩)] aa w5 _ c0 z0 d9a hclear).mono ?_;rintro e u' w6 ⟨rfl,rfl,B,hB,hXB,hg6,hs6⟩;have hx6:=(hg6.block (W.heap.size+1) (by rw[hB.size];simp;omega) (fun e=>by injection e with e;omega)).trans hXB;have he6:=(hg6.block (W.heap.size+2) (by rw[hB.size];simp;omega) (fun e=>by injection e with e;omega)).trans ((hB.same _ aE).trans (lN HF5.o.e 0 (.int .i64 c)));have r0:w6.cell? ⟨W.heap.size+2,0,none⟩=some (.int .i64 c):=(by rw[aG he6];rfl);refine⟨.tuple #[zQV,.int .i64 c],?_,dA (But.from (dP HF5.o.grown 0 aE _) hB aE) hg6,.inr ⟨c,HC.o,HR5.o,hs6,rfl⟩⟩;exact d4s rfl _ _ (W.heap.size+1) 36 _ _ _ _ rfl hx6 underlying36 rfl tC rfl (by simp[go_sem,r0])
 have HR5:=aB hr5;obtain⟨si,sj,sw,sg,sh,so,rfl,hp5⟩:=hq5;have HP5:=aB (hp5.of (r:=fun b=>W.heap.size+4<=b) fun b _ (hb:_<=b)=>by simp at hb;omega);have HONE:=aB hp5.one;clear hg5 hs5 hr5 hp5 c0 z0;go_wp2_with (refine bA rfl rfl rfl rfl (quC q si sj sw sg sh so) HF5.o.x rfl rfl tC HONE.o ?_)
 intro w6 hB6 hX6;have he6:=(hB6.same (W.heap.size+2) aE).trans HF5.o.e;have c0:=cK he6;have z0:w6.frozen? ⟨W.heap.size+2,0,none⟩=false:=aJ he6 0;have HB6:=aB (bT hB6 hX6);have HE6:=aB he6;clear hB6 hX6 he6;go_wp2_with fail;refine leaves_cons (f:=51) (args:= #[.pointer (some ⟨W.heap.size+2,0,none⟩),.func (.func 62) #[] #[.pointer (some ⟨W.heap.size+1,0,none⟩),.pointer (some ⟨W.heap.size,0,none⟩),.pointer (some ⟨W.heap.size+3,0,none⟩)]]) aa am ?_;refine(d9i _ _ _).mono ?_;rintro e u' w'' ⟨rfl,rfl,rfl⟩;have hx7:=(aM w6 ⟨W.heap.size+2,0,none⟩ (.int .i64 0) (W.heap.size+1) dt).trans HB6.o.2;have r0:=cK (x:= .int .i64 0) (lN HE6.o 0 (.int .i64 0));refine⟨.tuple #[QV q si sj sw sg sh so,.int .i64 0],?_,dP (But.from HF5.o.grown HB6.o.1 aE) 0 aE _,.inl ⟨k5,_,_,HR5.o,(HS5.o.but HB6.o.1 aE aE).set1 aE aE _ _,⟨_,_,_,_,_,_,rfl,?_⟩,rfl⟩⟩
 ·exact d4s rfl _ _ (W.heap.size+1) 36 _ _ _ _ rfl hx7 underlying36 rfl tC rfl (by simp[go_sem,r0])
 ·exact(HP5.o.but HB6.o.1 (fun i hi=>by omega)).keep (r:=fun b=>W.heap.size<=b) aa (fun b hb=>by omega) fun i hi _=>aM _ ⟨W.heap.size+2,0,none⟩ _ _ (by show i≠W.heap.size+2;omega)
def d2z(s:List UInt8)(W:World)(e:Ending)(w':World):Prop:=∃v,d5o w' (d2r s).2 v/\e= .returned (.tuple #[v,.int .i64 (d2r s).1])/\Bl W w'
theorem d8e{s:List UInt8}(h:bY s≠0):d2r s=(bY s,d3z):=by
 unfold d2r;unfold bY at h⊢;by_cases h1:4000<s.length
 ·rw[if_pos h1,if_pos h1]
 ·rw[if_neg h1] at h⊢;rw[if_neg h1];cases ht:jQ s with
  |none=>simp
  |some ts=>rw[ht] at h;simp at h
theorem But.bl{W A B:World}(h:Bl W A)(hb:But W.heap.size A B):Bl W B:=iL h hb.grown h.size (fun j hj=>by injection hj with hj;subst hj;exact aH _)
theorem e2f(s:List UInt8)(hs:s.length<=9223372036854775807)(h:bY s≠0)(W:World)(hG:nD W):fb 11 #[S s] W (d2z s W):=by
 have HPP:=aB (d8e h);have hX0:=aN W (.cells zQ0.toArray 36);have HB0:=aB ((Bl.refl W).alloc (.cells zQ0.toArray 36));have HG:=aB hG;have hb0:(bY s != 0)=true:=be;have HA:=aB h;clear hG h;go_enter func11,ntmps11;go_wp2_with fail
 (with_reducible refine(a7d s hs HA.o _ (HG.o.bl HB0.o)).mono ?_)
 rintro e w1 ⟨rfl,hb1⟩;have HX1:=aB ((hb1.block _ aa).trans hX0);have HB1:=aB (HB0.o.call hb1);clear hb1 hX0;go_wp2_with (refine bA rfl rfl rfl rfl zQ0 HX1.o rfl rfl tC rfl ?_)
 intro w9 hB9 hX9;have HX9:=aB hX9;have HB9:=aB (But.bl HB1.o hB9);clear hB9 hX9;go_wp2;refine bodyPost_ret (d2v rfl _ _ W.heap.size 36 _ _ rfl HX9.o underlying36 rfl tC) rfl ?_;exact⟨_,by rw[HPP.o];exact d3m _ _,by rw[HPP.o];rfl,HB9.o⟩
theorem e0h(s:List UInt8)(hs:s.length<=4000)(ts:List Tok)(h:jQ s=some ts)(W:World)(hG:nD W):fb 11 #[S s] W (d2z s W):=by
 have HT:=aB (a4t h);have HV:=aB (e6n h);have HG:=aB hG;have HTS:=aB h;have HP:=aB (show d2r s=match d5c (ts++[eT s.length]) 0 with
   | .bad c=>(c,d3z)
   | .good k x=>if((ts++[eT s.length])[k]?).map (·.k)=some 4 then(0,x) else(261,d3z) from by unfold d2r;rw[if_neg aE,h];rfl)
 have hX0:=aN W (.cells zQ0.toArray 36);have HB0:=aB ((Bl.refl W).alloc (.cells zQ0.toArray 36));have hfld:∀(y:Tok) (w:World),Sem.run prog (Instr.field 66 (TVt y) 0) w= .ok (.int .i64 y.k) w:=fun _ _=>rfl;clear hG h;go_enter func11,ntmps11;go_wp2_with fail
 (with_reducible refine(a4h s hs ts HTS.o _ (HG.o.bl HB0.o)).mono ?_)
 rintro e w1 ⟨bs,g,cap,rfl,hb1,hbs,hgs,hs1⟩;rw[aR] at hbs hgs;have HX1:=aB ((hb1.block _ aa).trans hX0);have HB1:=aB (HB0.o.call hb1);have HS1:=aB hs1;have hz1:=(aC.1 HX1.o).1;generalize ts++[eT s.length]=tl at *;clear hb1 hX0 hs1;go_wp2_with fail;refine(e3m HS1.o HT.o HV.o).mono ?_;rintro e w2 ⟨hg2,(⟨k',q,v,hr,hs2,⟨si,sj,sw,sg,sh,so,rfl,hA⟩,rfl⟩|⟨c,hc,hr,hs2,rfl⟩)⟩
 ·have HX2:=aB ((hg2.block _ hz1 (fun e=>by injection e with e;omega)).trans HX1.o);have HB2:=aB (a6z HB1.o hg2 aE);have HA2:=aB (hA.of (r:=fun b=>W.heap.size+1<=b) fun b _ (hb:_<=b)=>by omega);have HONE:=aB hA.one;have hz2:=(aC.1 HX2.o).1;have hy:tl[k']?=some (tl[k']'hs2.lt):=aP hs2.lt;generalize tl[k']'hs2.lt=y at hy;have hP:=HP.o;rw[hr] at hP;simp only[hy,lX,Option.some.injEq] at hP;have HY:=aB hy;have HS2:=aB hs2;have hf:=hfld y;clear hA hg2 hs2 hr hy hfld;go_wp2_with (refine bA rfl rfl rfl rfl (quC q si sj sw sg sh so) (aN w2 _) rfl rfl tC HONE.o ?_)
  intro w3 hB3 hX3;have HX3:=aB ((hB3.same _ aE).trans ((aW _ _ hz2).trans HX2.o));have HQ3:=aB hX3;have hb3:Bl w2 w3:=iL ((Bl.refl w2).alloc _) hB3.grown aa (fun j hj=>by injection hj with hj;omega);have HB3:=aB hb3;have HS3:=aB (HS2.o.bl hb3);have hz3:=hb3.size;clear hB3 hX3 hb3;obtain⟨tk,tp,tt,ta,tb,tc⟩:=y;by_cases h4:tk=4
  ·subst h4;rw[if_pos rfl] at hP;have HPP:=aB hP;clear hP;go_wp2_with fail
   (with_reducible refine(rH HS3.o HY.o).mono ?_)
   rintro e w4 ⟨rfl,hb4⟩;have HB4:=aB (HB3.o.call hb4);have HX4:=aB ((hb4.block _ aE).trans HX3.o);have HQ4:=aB ((hb4.block _ (aC.1 HQ3.o).1).trans HQ3.o);clear hb4;go_wp2_with (first |(refine wpList_load_row rfl 36 (.tmp 6) rfl w2.heap.size rfl 36 _ (0,0) _ HQ4.o underlying36 rfl tC ?_)|(refine bA rfl rfl rfl rfl (quC q si sj sw sg sh so) HX4.o rfl rfl tC HONE.o ?_))
   intro w9 hB9 hX9;have HX9:=aB hX9;have HB9:=aB (bT hB9 (But.bl (HB2.o.call HB4.o) hB9));clear hB9 hX9;go_wp2;refine bodyPost_ret (d2v rfl _ _ W.heap.size 36 _ _ rfl HX9.o underlying36 rfl tC) rfl ?_;refine⟨_,?_,by rw[HPP.o];rfl,HB9.o.2⟩;rw[HPP.o];exact⟨_,_,_,_,_,_,rfl,((HA2.o.bl HB4.o).but HB9.o.1 (fun i hi=>by omega)).of fun _ _ _=>trivial⟩
  ·rw[if_neg h4] at hP;have HPP:=aB hP;have hb4:(tk != 4)=true:=cc;clear hP h4;go_wp2_with fail
   (with_reducible refine(rH HS3.o HY.o).mono ?_)
   rintro e w4 ⟨rfl,hb4⟩;have HB4:=aB (HB2.o.call (HB3.o.call hb4));have HX4:=aB ((hb4.block _ aE).trans HX3.o);clear hb4;go_wp2_with (refine bA rfl rfl rfl rfl zQ0 HX4.o rfl rfl tC rfl ?_)
   intro w9 hB9 hX9;have HX9:=aB hX9;have HB9:=aB (But.bl HB4.o hB9);clear hB9 hX9;go_wp2;refine bodyPost_ret (d2v rfl _ _ W.heap.size 36 _ _ rfl HX9.o underlying36 rfl tC) rfl ?_;exact⟨_,by rw[HPP.o];exact d3m _ _,by rw[HPP.o];rfl,HB9.o⟩
 ·have HX2:=aB ((hg2.block _ hz1 (fun e=>by injection e with e;omega)).trans HX1.o);have HB2:=aB (a6z HB1.o hg2 aE);have hz2:=(aC.1 HX2.o).1;have hP:=HP.o;rw[hr] at hP;have HPP:=aB hP;have hc0:(c==0)=false:=by rcases hc with rfl|rfl|rfl<;>rfl
  have hc1:(c != 0)=true:=by rcases hc with rfl|rfl|rfl<;>rfl
  clear hP hg2 hs2 hr hc hfld;go_wp2_with (refine bA rfl rfl rfl rfl zQ0 (aN w2 _) rfl rfl tC rfl ?_)
  intro w3 hB3 hX3;have HX3:=aB ((hB3.same _ aE).trans ((aW _ _ hz2).trans HX2.o));have HB3:=aB (HB2.o.call (iL ((Bl.refl w2).alloc (.cells zQ0.toArray 36)) hB3.grown aa (fun j hj=>by injection hj with hj;omega)));clear hB3 hX3;go_wp2_with (refine bA rfl rfl rfl rfl zQ0 HX3.o rfl rfl tC rfl ?_)
  intro w9 hB9 hX9;have HX9:=aB hX9;have HB9:=aB (But.bl HB3.o hB9);clear hB9 hX9;go_wp2;refine bodyPost_ret (d2v rfl _ _ W.heap.size 36 _ _ rfl HX9.o underlying36 rfl tC) rfl ?_;exact⟨_,by rw[HPP.o];exact d3m _ _,by rw[HPP.o];rfl,HB9.o⟩
theorem d5l(s:List UInt8)(hs:s.length<=9223372036854775807)(W:World)(hG:nD W):fb 11 #[S s] W (d2z s W):=by
 by_cases h:bY s=0
 ·have hl:s.length<=4000:=by
   unfold bY at h;split at h
   ·cases h
   ·omega
  unfold bY at h;rw[if_neg aE] at h;cases ht:jQ s with
  |none=>rw[ht] at h;simp at h
  |some ts=>exact e0h s hl ts ht W hG
 ·exact e2f s hs h W hG
end
section
abbrev e5t(q:Qu)(bq bf:Nat):List Value:=[.bool true,.func (.func 94) #[] #[],.bool q.distinct,.func (.func 95) #[] #[],.bool true,.func (.func 96) #[] #[.pointer (some ⟨bq,0,none⟩),.pointer (some ⟨bf,0,none⟩)],.bool (decide (0<q.joins.length)),.func (.func 97) #[] #[.pointer (some ⟨bq,0,none⟩),.pointer (some ⟨bf,0,none⟩)],
 .bool (!d3i q.wher),.func (.func 101) #[] #[.pointer (some ⟨bq,0,none⟩)],.bool (decide (0<q.group.length)),.func (.func 102) #[] #[.pointer (some ⟨bq,0,none⟩)],.bool (!d3i q.having),.func (.func 104) #[] #[.pointer (some ⟨bq,0,none⟩)],
 .bool (decide (0<q.orders.length)),.func (.func 105) #[] #[.pointer (some ⟨bq,0,none⟩)],.bool (decide (0<=q.limit)),.func (.func 108) #[] #[.pointer (some ⟨bq,0,none⟩)]]
theorem d9e{P:Program}{fn:Func}{p:Tmp}{ty:TypeId}(h:fn.results= #[.cell p ty])(tmps:Array Value)(w:World)(g:Nat)(t:TypeId)(cs:Array Value)(d:TypeDesc)
  (hp:tmps.getD p undef= .pointer (some ⟨g,0,none⟩)) (hg:w.heap[g]?=some (.cells cs t (0,0))) (hu:P.underlying ty=some d) (hd:(match d with | .struct _| .array _ _=>true|_=>false)=true) (hi:(P.info? ty).map (·.size)=some cs.size):(results fn tmps).run P w= .ok (.agg cs) w:=by
 have hp':tmps[p]?.getD undef= .pointer (some ⟨g,0,none⟩):=cf;have hl:=run_loadVar_row w g t ty cs (0,0) d hg hu eh hi;simp[results,h,hp',asAddr,hl]
theorem e5y:(prog.info? 86).map (·.size)=some 18:=by kernel_rfl
abbrev zCl:List Value:=[.bool false,.nilFunc,.bool false,.nilFunc,.bool false,.nilFunc,.bool false,.nilFunc,.bool false,.nilFunc,.bool false,.nilFunc,.bool false,.nilFunc,.bool false,.nilFunc,.bool false,.nilFunc]
theorem e6x:(prog.info? 137).map (·.size)=some 1:=by kernel_rfl
section
variable {W:World} {q:Qu} {ai aj aw ag ah ao:Option Addr} {ci cj cw cg ch co:Nat}
theorem d9h(hq:e1a q)(hp:d2t (fun _=>True) W q (.slice ai q.items.length ci) (.slice aj q.joins.length cj) (.slice aw q.wher.args.length cw) (.slice ag q.group.length cg) (.slice ah q.having.args.length ch) (.slice ao q.orders.length co))(hG:nD W):fb 36 #[QV q (.slice ai q.items.length ci) (.slice aj q.joins.length cj) (.slice aw q.wher.args.length cw) (.slice ag q.group.length cg) (.slice ah q.having.args.length ch) (.slice ao q.orders.length co)] W fun e w'=>Bl W w'/\∃bq bf,e= .returned (.agg (e5t q bq bf).toArray)/\e1b w' bq bf q ai ci aj cj aw cw ag cg ah ch ao co:=by
 have H3:Hid (∀w,Bl W w->fb 83 #[EV q.wher.k q.wher.v q.wher.t q.wher.n q.wher.o (.slice aw q.wher.args.length cw)] w fun e w'=>e= .returned (.bool (d3i q.wher))/\Bl w w'):=fun w hb=>d5d hq.wher.parts w _ ⟨_,rfl,hp.wher.reads.bl hb⟩;have H5:Hid (∀w,Bl W w->fb 83 #[EV q.having.k q.having.v q.having.t q.having.n q.having.o (.slice ah q.having.args.length ch)] w fun e w'=>e= .returned (.bool (d3i q.having))/\Bl w w'):=fun w hb=>d5d hq.having.parts w _ ⟨_,rfl,hp.having.reads.bl hb⟩;have HP:=aB (bT hp hG);have HX0:=aB (aN W (.cells (quC q (.slice ai q.items.length ci) (.slice aj q.joins.length cj) (.slice aw q.wher.args.length cw) (.slice ag q.group.length cg) (.slice ah q.having.args.length ch) (.slice ao q.orders.length co)).toArray 36));clear hq hp hG;go_enter func36,ntmps36;have HB2:=aB ((((Bl.refl W).alloc (.cells (quC q (.slice ai q.items.length ci) (.slice aj q.joins.length cj) (.slice aw q.wher.args.length cw) (.slice ag q.group.length cg) (.slice ah q.having.args.length ch) (.slice ao q.orders.length co)).toArray 36)).alloc (.cells zCl.toArray 86)).alloc (.cells #[.nilFunc] 137));have HX2:=aB (aV (((W.alloc (.cells (quC q (.slice ai q.items.length ci) (.slice aj q.joins.length cj) (.slice aw q.wher.args.length cw) (.slice ag q.group.length cg) (.slice ah q.having.args.length ch) (.slice ao q.orders.length co)).toArray 36)).alloc (.cells zCl.toArray 86))) (.cells [.nilFunc].toArray 137) (k:=W.heap.size+1+1) aa);go_wp2_with (refine bA rfl rfl rfl rfl [.func (.func 92) #[] #[]] HX2.o rfl rfl e6x rfl ?_)
 intro w0 hB0 hX0;have HB0:=aB (HB2.o.but hB0 aE);have HE0:=aB (bT ((hB0.same W.heap.size aE).trans (uA _ _ _ _)) (bT ((hB0.same (W.heap.size+1) aE).trans (oZ _ _ _ _)) hX0));clear hB0 hX0 HX2 HB2 HX0;go_wp2_with fail;refine wp_region_noPanic (bM (fun B=>B.heap[W.heap.size]?=some (.cells (quC q (.slice ai q.items.length ci) (.slice aj q.joins.length cj) (.slice aw q.wher.args.length cw) (.slice ag q.group.length cg) (.slice ah q.having.args.length ch) (.slice ao q.orders.length co)).toArray 36 (0,0))/\B.heap[W.heap.size+1+1]?=some (.cells #[.func (.func 92) #[] #[]] 137 (0,0))) ((.take 0 (.take 1 (.take 2 (.take 3 (.take 4 (.take 5 (.take 6 (.take 7 (.take 8 (.take 9 (.take 10 (.take 11 (.take 12 (.take 13 (.take 16 (.take 18 (.take 19 (.take 20 (.take 21 (.take 22 (.take 23 (.take 24 (.take 25 (.take 28 (.take 30 (.take 31 (.take 32 (.take 33 (.take 34 (.take 35 (.take 36 (.take 37 (.take 38 (.take 39 (.take 40 (.one 14 (.take 15 (.take 17 (.one 26 (.take 27 (.take 29 (.take 41 (.one 42 .done)))))))))))))))))))))))))))))))))))))))))))) ae ae ae (fun _ _ _ _ _ h=>h) (eB ⟨HE0.o.1,HE0.o.2.2⟩ ((Bl.refl _).drew)) ?_);intro wd HWD hY;iterate 35 (refine aI rfl ab ep ?_;(try simp only[aK,aA,aD,aF]))
 refine aL rfl (fun K hK=>?_);go_simp;(refine(H3.o _ (HB0.o.call HWD.o)).mono ?_;rintro e w3 ⟨rfl,hb3⟩;have hb:=hb3);go_wp2_with fail;refine hK.o _ _ ((by first |exact eB hY hb|exact pV hY hb aE aE)) ?_;clear hY hK K;intro hY;clear hb;iterate 2 (refine aI rfl ab ep ?_;(try simp only[aK,aA,aD,aF]))
 refine aL rfl (fun K hK=>?_);go_simp;(refine(H5.o _ ((HB0.o.call HWD.o).call hb3)).mono ?_;rintro e w4 ⟨rfl,hb4⟩;have hb:=hb4);go_wp2_with fail;refine hK.o _ _ ((by first |exact eB hY hb|exact pV hY hb aE aE)) ?_;clear hY hK K;intro hY;clear hb;iterate 3 (refine aI rfl ab ep ?_;(try simp only[aK,aA,aD,aF]))
 refine aL rfl (fun K hK=>?_);rw[if_pos ab];refine bC rfl rfl rfl (e5t q W.heap.size (W.heap.size+1+1)) (((Bl.call (Bl.call HWD.o hb3) hb4).block _ (lt_of_heap HE0.o.2.1)).trans HE0.o.2.1) rfl rfl e5y rfl ?_;intro w5 hB5 hX5;refine hK.o _ _ ((by first |exact eB hY hB5|exact pV hY hB5 aE aE)) ?_;clear hY hK K;intro hY;(try simp only[aK])
 refine fO (bF ?_);have HR:=aB (bT hX5 (bT hY ((Bl.call (Bl.call (Bl.call HB0.o HWD.o) hb3) hb4).but hB5 aE)));clear hX5 hY hB5;go_wp2;refine bodyPost_ret (d9e rfl _ _ (W.heap.size+1) 86 _ _ rfl HR.o.1 underlying86 rfl e5y) rfl ?_;exact⟨HR.o.2.2,W.heap.size,W.heap.size+1+1,rfl,⟨HR.o.2.1.1,HR.o.2.1.2,HP.o.1.bl HR.o.2.2,HP.o.2.bl HR.o.2.2⟩⟩
theorem d6g{ops:Array Oper}{rest:List Oper}{o:Oper}{a:Act}{w:World}{Q:Exit->Act->World->Prop}(hgd:o.guard=none)(s x:Operand)(ho:o.op= .call {callee:= .builtin .append,args:= #[s,x],argTypes:= #[82,82]})
  (base:Nat) (v:Value) (n:Nat) (xs:List Value) (hs:a.eval s=v) (hown:w.ownsRow base 9 1 v n xs) (b:Nat) (y:List UInt8) (hx:a.eval x= .slice (some ⟨b,0,none⟩) 1 1) {t:TypeId}
  (hb:w.heap[b]?=some (.cells #[S y] t (0,0))) (hfew:n<=1000000) (hbase:base<=w.heap.size)
  (h:∀v' w',w'.ownsRow base 9 1 v' (n+1) (xs++[S y])->w.grownBy w' v.ownBlock->(v'.ownBlock=v.ownBlock\/v'.ownBlock=some w.heap.size)->wpList prog ops Q rest (a.put o.dst v') w'):wpList prog ops Q (o::rest) a w:=
 wpList_plain hgd fun _ hK=>d2w s x ho base v n xs hs hown b y hx hb hfew hbase fun v' w' h1 h2 h3=>hK _ _ (h v' w' h1 h2 h3)
theorem e6g:(prog.info? 85).map (·.size)=some 2:=by kernel_rfl
def clB(q:Qu)(j:Nat):Bool:=((d2q q)[j]?.getD (false,[])).1
def clT(q:Qu)(j:Nat):List UInt8:=((d2q q)[j]?.getD (false,[])).2
def e5s:Nat->FuncId
 |0=>94
 |1=>95
 |2=>96
 |3=>97
 |4=>101
 |5=>102
 |6=>104
 |7=>105
 |_=>108
def e6y(bq bf:Nat):Nat->Array Value
 |0=> #[]
 |1=> #[]
 |2=> #[.pointer (some ⟨bq,0,none⟩),.pointer (some ⟨bf,0,none⟩)]
 |3=> #[.pointer (some ⟨bq,0,none⟩),.pointer (some ⟨bf,0,none⟩)]
 |_=> #[.pointer (some ⟨bq,0,none⟩)]
theorem e0l(j:Nat)(args:Array Value)(w:World):(callFunc (e5s j) args).run prog w= .ok (.enter (e5s j) args) w:=by
 match j with
 |0|1|2|3|4|5|6|7=>simp[go_sem,e5s]
 |n+8=>simp[go_sem,e5s]
theorem e5q(q:Qu)(bq bf:Nat){j:Nat}(hj:j<9)(w:World):(Instr.index 86 (.agg (e5t q bq bf).toArray) (.int .i64 (j:Int))).run prog w= .ok (.agg #[.bool (clB q j),.func (.func (e5s j)) #[] (e6y bq bf j)]) w:=by
 match j,hj with
 |0,_=>rfl
 |1,_=>rfl
 |2,_=>rfl
 |3,_=>rfl
 |4,_=>rfl
 |5,_=>rfl
 |6,_=>rfl
 |7,_=>rfl
 |8,_=>rfl
 |n+9,h=>omega
theorem e6f(q:Qu){j:Nat}(hj:j<9):d4a ((d2q q).take (j+1))=d4a ((d2q q).take j)++if clB q j=true then[clT q j] else[]:=by
 have hl:j<(d2q q).length:=hj;have e:(d2q q).take (j+1)=(d2q q).take j++[(d2q q)[j]]:=(by rw[dN,aP hl];rfl);rw[e];unfold d4a clB clT;rw[aP hl,List.flatMap_append];simp only[List.flatMap_cons,List.flatMap_nil,List.append_nil,oQ]
theorem d7d:∀l:List (Bool×List UInt8),(d4a l).length<=l.length
 |[]=>aH _
 |(b,t)::l=>by
  have:=d7d l;unfold d4a at this⊢;have e:(if(b,t).1=true then[(b,t).2] else[]).length<=1:=(by split<;>simp);rw[List.flatMap_cons,bD,aX];omega
theorem e5r(hq:e1a q)(hr:d3e q=true){bq bf:Nat}(h:e1b W bq bf q ai ci aj cj aw cw ag cg ah ch ao co){j:Nat}(hj:j<9)(hb:clB q j=true):fb (e5s j) (e6y bq bf j) W fun e w'=>e= .returned (S (clT q j))/\Bl W w':=by
 match j,hj,hb with
 |0,_,_=>exact e5b W
 |1,_,_=>exact e5a W
 |2,_,_=>exact e4z hq hr h
 |3,_,hb=>exact e4y hq hr h hb
 |4,_,hb=>exact e4x hq hr h (by have h2:(!d3i q.wher)=true:=hb;simpa using h2)
 |5,_,hb=>exact e4w hq hr h hb
 |6,_,hb=>exact e4v hq hr h (by have h2:(!d3i q.having)=true:=hb;simpa using h2)
 |7,_,hb=>exact e4u hq hr h hb
 |8,_,hb=>exact e3k hq hr h hb
 |n+9,h,_=>omega
theorem e3l(hq:e1a q)(hr:d3e q=true)(W:World)(v:Value)(hv:d5o W q v)(hG:nD W):fb 8 #[v] W fun e w'=>e= .returned (.tuple #[S (d8n q),.int .i64 0])/\Bl W w':=by
 obtain⟨si,sj,sw,sg,sh,so,rfl,hp⟩:=hv;obtain⟨ai,ci,aj,cj,aw,cw,ag,cg,ah,ch,ao,co,rfl,rfl,rfl,rfl,rfl,rfl⟩:=hp.shapes;have HCK:Hid (∀w,Bl W w->fb 30 #[QV q (.slice ai q.items.length ci) (.slice aj q.joins.length cj) (.slice aw q.wher.args.length cw) (.slice ag q.group.length cg) (.slice ah q.having.args.length ch) (.slice ao q.orders.length co)] w fun e w'=>e= .returned (.int .i64 0)/\Bl w w'):=fun w hb=>e2g hq hr w _ ⟨_,_,_,_,_,_,rfl,hp.bl hb⟩ (hG.bl hb);have HCL:Hid (∀w,Bl W w->fb 36 #[QV q (.slice ai q.items.length ci) (.slice aj q.joins.length cj) (.slice aw q.wher.args.length cw) (.slice ag q.group.length cg) (.slice ah q.having.args.length ch) (.slice ao q.orders.length co)] w fun e w'=>Bl w w'/\∃bq bf,e= .returned (.agg (e5t q bq bf).toArray)/\e1b w' bq bf q ai ci aj cj aw cw ag cg ah ch ao co):=fun w hb=>d9h hq (hp.bl hb) (hG.bl hb);have HCC:Hid (∀w bq bf,e1b w bq bf q ai ci aj cj aw cw ag cg ah ch ao co->∀j,j<9->clB q j=true->fb (e5s j) (e6y bq bf j) w fun e w'=>e= .returned (S (clT q j))/\Bl w w'):=fun w bq bf h j hj hb=>e5r hq hr h hj hb;have HWD:Hid (∀w v base,w.ownsRow base 9 1 v (d4a (d2q q)).length ((d4a (d2q q)).map fun s=>S s)->fb 37 #[v] w fun e w'=>e= .returned (S (d8n q))/\Bl w w'):=fun w v base h=>by
  have hs:=(b8c h).resolve_left (fun h=>by cases (show d3h::d4a (d2q q).tail=[] from h.1));have h:=d3a hs (jH (d7d _) (by show 9<=1000000;omega)) (by rw[d6h];exact hq.text hr);rw[d6h] at h;exact h
 have HX0:=aB (aN W (.cells (quC q (.slice ai q.items.length ci) (.slice aj q.joins.length cj) (.slice aw q.wher.args.length cw) (.slice ag q.group.length cg) (.slice ah q.having.args.length ch) (.slice ao q.orders.length co)).toArray 36));have HB0:=aB ((Bl.refl W).alloc (.cells (quC q (.slice ai q.items.length ci) (.slice aj q.joins.length cj) (.slice aw q.wher.args.length cw) (.slice ag q.group.length cg) (.slice ah q.having.args.length ch) (.slice ao q.orders.length co)).toArray 36));clear hq hr hp hG;go_enter func8,ntmps8;go_wp2_with (refine wpList_load_row rfl 36 (.tmp 1) rfl W.heap.size rfl 36 _ (0,0) _ HX0.o underlying36 rfl tC ?_)
 go_wp2_with fail;refine(HCK.o _ HB0.o).mono ?_;rintro e w1 ⟨rfl,hb1⟩;have HX1:=aB ((hb1.block _ (lt_of_heap HX0.o)).trans HX0.o);have HB1:=aB (HB0.o.call hb1);clear hb1 HX0 HB0;go_wp2_with (refine wpList_load_row rfl 36 (.tmp 1) rfl W.heap.size rfl 36 _ (0,0) _ HX1.o underlying36 rfl tC ?_)
 go_wp2_with fail;refine(HCL.o _ HB1.o).mono ?_;rintro e w2 ⟨hb2,bq,bf,rfl,hE⟩;have HE:=aB hE;have HB2:=aB (HB1.o.call hb2);clear hb2 hE HX1 HB1 HCK HCL;go_wp2_with fail;go_loopw [5,15] (fun sv i wr=>∃(j:Nat) (v0:Value),sv=v0/\j<=9/\i= .int .i64 (j:Int)/\Hid (wr.ownsRow w2.heap.size 9 1 v0 (d4a ((d2q q).take j)).length ((d4a ((d2q q).take j)).map fun s=>S s))/\Hid (Bl w2 wr)) (fun _ i _=>9-(intOf i).toNat)
 case atStart=>exact⟨0,_,rfl,dL _,rfl,d2l _ _ _ _,Bl.refl _⟩
 case round=>
  obtain⟨j,v0,rfl,hj,rfl,HO,HB⟩:=hrel;by_cases hlt:j<9
  ·have hix:=fun w=>e5q q bq bf hlt w;have hen:=e0l;have HTD:=aB (e6f q hlt);have HCJ:=aB (HCC.o · bq bf · j hlt);have hlt':(j:Int)<9:=aE;have hln:(d4a ((d2q q).take j)).length<=1000000:=jH (d7d _) (by rw[List.length_take];omega);go_wp2_with (refine bA rfl rfl rfl rfl [.bool (clB q j),.func (.func (e5s j)) #[] (e6y bq bf j)] (aN wr _) rfl rfl e6g rfl ?_)
   intro w3 hB3 hX3;have c0:w3.cell? ⟨wr.heap.size,0,none⟩=some (.bool (clB q j)):=(aG hX3 0).trans rfl;have c1:w3.cell? ⟨wr.heap.size,1,none⟩=some (.func (.func (e5s j)) #[] (e6y bq bf j)):=(aG hX3 1).trans rfl;have HB3:=aB (((Bl.refl wr).alloc (.cells #[.bool false,.nilFunc] 85)).but hB3 (aH _));clear hB3 hX3;cases hcb:clB q j
   ·have HN:=aB (show d4a ((d2q q).take (j+1))=d4a ((d2q q).take j) from by rw[HTD.o,hcb];simp);rw[hcb] at c0;clear hcb HTD HCJ;go_wp2;go_roundw
    case rel=>exact⟨j+1,_,rfl,by omega,by go_num,by rw[HN.o];exact gY HB3.o HO.o,HB.o.call HB3.o⟩
    case measure=>simp[intOf];omega
   ·have HN:=aB (show d4a ((d2q q).take (j+1))=d4a ((d2q q).take j)++[clT q j] from by rw[HTD.o,hcb];simp);have HCT:=aB (fun w hE=>HCJ.o w hE hcb);rw[hcb] at c0;clear hcb HTD HCJ;generalize d4a ((d2q q).take j)=l0 at *;go_wp2_with fail;refine(HCT.o _ (HE.o.bl (HB.o.call HB3.o))).mono ?_;rintro e w4 ⟨rfl,hb4⟩;have HB4:=aB (HB3.o.call hb4);have HO4:=aB (gY HB4.o HO.o);clear hb4;go_wp2_with (at_builtin;refine d6g rfl (.tmp 20) (.tmp 24) rfl w2.heap.size u5 l0.length (l0.map fun s=>S s) rfl (gY ((Bl.refl w4).alloc _) HO4.o) w4.heap.size (clT q j) rfl (aN w4 _) hln (by have:=(HB.o.call HB4.o).size;rw[aR];omega) ?_)
    intro v' w5 hown5 hg5 hat;have hlow:=HO4.o.lt;have HB5:=aB (iL ((HB.o.call HB4.o).alloc _) hg5 (by have:=(HB.o.call HB4.o).size;rw[aR];omega) (fun i hi=>(hlow i hi).1));have HO5:=aB hown5;clear hown5 hg5 hat hlow;go_wp2;go_roundw
    case rel=>exact⟨j+1,_,rfl,by omega,by go_num,by rw[HN.o,bD,kW];exact HO5.o,HB5.o⟩
    case measure=>simp[intOf];omega
  ·obtain rfl:j=9:=by omega
   have HW:=aB (HWD.o wr _ _ HO.o);go_wp2_with fail;refine HW.o.mono ?_;rintro e w6 ⟨rfl,hb6⟩;go_wp2;go_ret2;exact⟨rfl,(HB2.o.call HB.o).call hb6⟩
end
end
section
def exB(x:Ex):Bool:=decide (fC x<=1000)&&c3p x&&decide ((eY x).length<=10000)
theorem d6n{x:Ex}(h:exB x=true):e0m x:=by
 unfold exB at h;simp only[aQ,decide_eq_true_eq] at h;have:=c2c x h.1.2;exact⟨by omega,this.2,this.1,fun _=>by omega⟩
def quB(q:Qu):Bool:=
 (q.items.all fun i=>exB i.x&&decide (i.t.length<=10000)&&decide (i.al.length<=10000))&&(decide (q.frm.t.length<=10000)&&decide (q.frm.al.length<=10000))&&(q.joins.all fun j=>exB j.on&&decide (j.s.t.length<=10000)&&decide (j.s.al.length<=10000))&&
 exB q.wher&&q.group.all exB&&exB q.having&&(q.orders.all fun o=>exB o.x)&&decide (q.items.length<=1000/\q.joins.length<=1000/\q.group.length<=1000/\q.orders.length<=1000)&&decide ((d8n q).length<=10000)&&decide (-1000000<=q.limit/\q.limit<=1000000)
theorem e6d{q:Qu}(h:quB q=true):e1a q:=by
 unfold quB at h;simp only[aQ,decide_eq_true_eq,jA] at h;obtain⟨⟨⟨⟨⟨⟨⟨⟨⟨hi,hf⟩,hj⟩,hw⟩,hg⟩,hh⟩,ho⟩,hl⟩,ht⟩,hm⟩:=h;refine⟨fun i h=>⟨d6n (hi i h).1.1,?_,?_⟩,⟨?_,?_⟩,fun j h=>⟨⟨?_,?_⟩,d6n (hj j h).1.1⟩,d6n hw,fun x h=>d6n (hg x h),d6n hh,fun o h=>d6n (ho o h),by omega,by omega,by omega,by omega,fun _=>by omega,by omega,by omega⟩
 ·have:=(hi i h).1.2;unfold d4d;omega
 ·have:=(hi i h).2;unfold d4d;omega
 ·have:=hf.1;unfold d4d;omega
 ·have:=hf.2;unfold d4d;omega
 ·have:=(hj j h).1.2;unfold d4d;omega
 ·have:=(hj j h).2;unfold d4d;omega
def e0n(s t:List UInt8):Bool:=(d2r s).1==0&&d3e (d2r s).2&&d8n (d2r s).2==t&&quB (d2r s).2
structure OkQ(s t:List UInt8):Prop where
 no:(d2r s).1=0
 chk:d3e (d2r s).2=true
 txt:d8n (d2r s).2=t
 ok:e1a (d2r s).2
theorem okQ{s t:List UInt8}(h:e0n s t=true):OkQ s t:=by
 unfold e0n at h;simp only[aQ,beq_iff_eq] at h;exact⟨h.1.1.1,h.1.1.2,h.1.2,e6d h.2⟩
def e6r:List UInt8:=[115,101,108,101,99,116,32,97,44,32,116,46,42,44,32,98,32,43,32,49,32,97,115,32,99,32,102,114,111,109,32,116,32,97,115,32,117,32,106,111,105,110,32,118,32,111,110,32,97,32,61,32,98,32,119,104,101,114,101,32,99,32,108,105,109,105,116,32,50]
def e6p:List UInt8:=[115,101,108,101,99,116,32,97,44,32,116,46,42,44,32,40,98,32,43,32,49,41,32,97,115,32,99,32,102,114,111,109,32,116,32,97,115,32,117,32,106,111,105,110,32,118,32,111,110,32,40,97,32,61,32,98,41,32,119,104,101,114,101,32,99,32,108,105,109,105,116,32,50]
theorem e4s:e0n e6r e6p=true:=by decide+kernel
def e6q:List UInt8:=[115,101,108,101,99,116,32,42,32,102,114,111,109,32,116,32,103,114,111,117,112,32,98,121,32,97,32,104,97,118,105,110,103,32,99,111,117,110,116,40,42,41,32,62,32,49,32,111,114,100,101,114,32,98,121,32,97,32,100,101,115,99,44,32,98,32,97,115,99]
def e6o:List UInt8:=[115,101,108,101,99,116,32,42,32,102,114,111,109,32,116,32,103,114,111,117,112,32,98,121,32,97,32,104,97,118,105,110,103,32,40,99,111,117,110,116,40,42,41,32,62,32,49,41,32,111,114,100,101,114,32,98,121,32,97,32,100,101,115,99,44,32,98]
theorem e4r:e0n e6q e6o=true:=by decide+kernel
def e4q:List UInt8:=[115,101,108,101,99,116,32,102,114,111,109,32,116]
theorem e4o:((d2r e4q).1==261)=true:=by decide+kernel
def e4n:List UInt8:=[115,101,108,101,99,116,32,97,32,102,114,111,109,32,116,32,104,97,118,105,110,103,32,98]
theorem e4l:((d2r e4n).1==261)=true:=by decide+kernel
end
end Go.Proofs.YtfkekkgfmhcanaaGreatDoor
