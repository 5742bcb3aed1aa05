/- Texts QK QO Q7 QS QT Q8. -/
import Derived.Test.YtohlomdapelgeaaGreatDoorCG
import Derived.Test.YtohlomdapelgeaaGreatDoorCI
import Derived.Test.YtohlomdapelgeaaGreatDoorCE
namespace Go.Proofs.YtohlomdapelgeaaGreatDoor
open _root_.Go.Proofs.Tryz
open Go.RowKit
open _root_.Go.Act renaming put->aK
open _root_.Array renaming getElem?_eq_some_iff->aC
open _root_.Go.RowKit.Below renaming grown->iL
open _root_.Bool renaming and_eq_true->aQ,false_eq_true->fM
open _root_.Go.Ending renaming returned->bQ
open _root_.Go.Lib renaming hid->aB
open _root_.List renaming setIfInBounds_toArray->aA,set_cons_succ->aF,set_cons_zero->aD
open _root_.Nat renaming le_refl->aH,le_trans->jH
open NoPanic renaming normal->bF
open _root_.Go.World renaming size_alloc->aR
set_option maxRecDepth 100000
set_option maxHeartbeats 4000000
section
theorem d3a{W:World}{sv:Value}{l:List (List UInt8)}(h:sW W sv l)(hm:l.length<=1000000)(hlen:(jR [32] l).length<=100000000):eg 113 #[sv] W fun e w'=>e= .returned (S (jR [32] l))/\Bl W w':=by
 have HJ:=aB (b0j h [32] hm hlen);obtain⟨b,cap,rfl,-⟩:=h;generalize jR [32] l=jl at *;clear hlen;go_enter func113,ntmps113;go_wp2_with fail;refine HJ.o.mono ?_;rintro e w1 ⟨rfl,hb⟩;go_wp2;go_ret;exact⟨rfl,hb⟩
theorem d5r{W:World}{sv:Value}{l:List (List UInt8)}(h:sW W sv l)(hm:l.length<=1000000)(hlen:(jR [44,32] l).length<=100000000):eg 75 #[sv] W fun e w'=>e= .returned (S (jR [44,32] l))/\Bl W w':=by
 have HJ:=aB (b0j h [44,32] hm hlen);obtain⟨b,cap,rfl,-⟩:=h;generalize jR [44,32] l=jl at *;clear hlen;go_enter func75,ntmps75;go_wp2_with fail;refine HJ.o.mono ?_;rintro e w1 ⟨rfl,hb⟩;go_wp2;go_ret;exact⟨rfl,hb⟩
theorem e0v(s al:List UInt8)(hlen:(d4t s al).length<=100000000)(W:World):eg 121 #[S s,S al] W fun e w'=>e= .returned (S (d4t s al))/\Bl W w':=by
 by_cases h0:al=[]
 ·subst h0;have e0:d4t s []=s:=(by unfold d4t;rw[if_pos rfl]);rw[e0];go_enter func121,ntmps121;go_wp2;go_ret;exact⟨rfl,Bl.refl _⟩
 have hb0:(al==[])=false:=cA;have HE:=aB (show d4t s al=jR [32] [s,wAs,al] from by rw[e2j,if_neg h0]);rw[HE.o] at hlen⊢;clear h0;go_enter func121,ntmps121;go_wp2_with fail;refine(d3a (wO W [s,wAs,al] _ _ rfl _ _ rfl rfl) aa hlen).mono ?_;rintro e w1 ⟨rfl,hb⟩;go_wp2;go_ret;exact⟨rfl,((Bl.refl _).alloc _).call hb⟩
theorem d5b{P:Program}{T kt et:TypeId}(hT:P.underlying T=some (.map kt et))(hK:P.underlying kt=some .bool)(w:World)(es:Array MapEntry)(clock:Nat)(n:Bool)(v:Value)
  (h:Instr.findNow .bool (.bool n) es.toList 0=some none):
  (Instr.mapUpdate T (.map (some w.heap.size)) (.bool n) v).run P (w.alloc (.map es clock))= .ok () (w.alloc (.map (es.push {key:= .bool n,val:=v,born:=clock}) (clock+1))):=by
 have hb:(w.alloc (.map es clock)).heap[w.heap.size]?=some (.map es clock):=(by show(w.heap.push _)[w.heap.size]?=_;simp);have h1:=MapKept.run_getObj_map (P:=P) hb;have h2:=MapKept.run_checkKey (P:=P) (w:=w.alloc (.map es clock)) (k:= .bool n) hK (by trivial) false 9999;have h3:=MapKept.run_findKey (P:=P) (w:=w.alloc (.map es clock)) hK h;have h4:=MapKept.run_setObj_map (P:=P) (.map (es.push {key:= .bool n,val:=v,born:=clock}) (clock+1)) hb;have h5:({(w.alloc (.map es clock)) with heap:=(w.alloc (.map es clock)).heap.setIfInBounds w.heap.size (.map (es.push {key:= .bool n,val:=v,born:=clock}) (clock+1))}:World)=w.alloc (.map (es.push {key:= .bool n,val:=v,born:=clock}) (clock+1)):=by
  have e:(w.heap.push (Obj.map es clock)).setIfInBounds w.heap.size (.map (es.push {key:= .bool n,val:=v,born:=clock}) (clock+1))=w.heap.push (.map (es.push {key:= .bool n,val:=v,born:=clock}) (clock+1)):=by
   apply Array.ext_getElem?;intro i;rw[Array.getElem?_setIfInBounds,Array.getElem?_push,Array.getElem?_push];by_cases h:w.heap.size=i
   ·subst h;simp
   ·simp[h,Ne.symm h]
  show({w with heap:=_}:World)={w with heap:=_}
  exact congrArg (fun h=>({w with heap:=h}:World)) e
 simp only[Instr.mapUpdate,Sem.run_bind,run_underlying hT,Result.andThen,h1,h2,h3];rw[h4,h5]
theorem d5a{P:Program}{T kt et:TypeId}(hT:P.underlying T=some (.map kt et))(hK:P.underlying kt=some .bool){w:World}{r:Nat}{es:Array MapEntry}{clock:Nat}(hb:w.heap[r]?=some (.map es clock)){n:Bool}{i:Nat}{v:Value}
  (h:Instr.findNow .bool (.bool n) es.toList 0=some (some (i,v))):
  (Instr.lookup T (.map (some r)) (.bool n) false).run P w= .ok v w:=by
 have h1:=MapKept.run_getObj_map (P:=P) hb;have h2:=MapKept.run_checkKey (P:=P) (w:=w) (k:= .bool n) hK (by trivial) es.isEmpty 9999;have h3:=MapKept.run_findKey (P:=P) (w:=w) hK h;simp[Instr.lookup,Sem.run_bind,run_underlying hT,Result.andThen,h1,h2,h3]
abbrev bEnt(n:Bool)(f:FuncId)(p:Nat)(b:Nat):MapEntry:={key:= .bool n,val:= .func (.func f) #[] #[.pointer (some ⟨p,0,none⟩)],born:=b}
theorem e7i(w:World)(p:Nat):(Instr.mapUpdate 179 (.map (some w.heap.size)) (.bool true) (.func (.func 118) #[] #[.pointer (some ⟨p,0,none⟩)])).run prog (w.alloc (.map #[] 0))= .ok () (w.alloc (.map #[bEnt true 118 p 0] 1)):=
 d5b underlying179 underlying4 w #[] 0 true _ rfl
theorem e7h(w:World)(p:Nat):(Instr.mapUpdate 179 (.map (some w.heap.size)) (.bool false) (.func (.func 120) #[] #[.pointer (some ⟨p,0,none⟩)])).run prog (w.alloc (.map #[bEnt true 118 p 0] 1))= .ok () (w.alloc (.map #[bEnt true 118 p 0,bEnt false 120 p 1] 2)):=
 d5b underlying179 underlying4 w #[bEnt true 118 p 0] 1 false _ rfl
theorem e7g(w:World)(p:Nat)(r:Nat)(hb:w.heap[r]?=some (.map #[bEnt true 118 p 0,bEnt false 120 p 1] 2))(n:Bool):
  (Instr.lookup 179 (.map (some r)) (.bool n) false).run prog w= .ok (.func (.func (if n=true then 118 else 120)) #[] #[.pointer (some ⟨p,0,none⟩)]) w:=by
 cases n
 ·exact d5a underlying179 underlying4 hb (i:=1) rfl
 ·exact d5a underlying179 underlying4 hb (i:=0) rfl
theorem d7s{b:Nat}{st:Bool}{t:List UInt8}{k v1 v2:Int}{v3 xt xn:List UInt8}{o:Int}{a:Value}{al:List UInt8}(ht:t=[]\/mO t=true)(hlt:t.length<=10000){W:World}(hX:W.heap[b]?=some (.cells (e6e st t k v1 v2 v3 xt xn o a al).toArray 103 (0,0))):
  eg 118 #[.pointer (some ⟨b,0,none⟩)] W fun e w'=>e= .returned (S (if t=[] then[42] else t++[46,42]))/\Bl W w':=by
 obtain⟨u,hu⟩:∃u,u=if t=[] then[42] else t++[46,42]:=⟨_,rfl⟩
 have H:=aB ((b8s (n:=[42]) ht).trans (by rw[hu];simp:(if t=[] then[42] else t++[46]++[42])=u));rw[<-hu];have c1:W.cell? ⟨b,1,none⟩=some (S t):=(d3y hX).2.1;clear ht hu hX;have e1:((⟨t.toArray⟩:ByteArray)++⟨#[46,42]⟩).data.toList=t++[46]++[42]:=aa;have HJ:Hid (∀w,eg 119 #[.string ((⟨t.toArray⟩:ByteArray)++⟨#[46,42]⟩),.string ⟨#[46]⟩] w fun e w'=>e= .returned (S u)/\w'=w):=fun w=>by
  refine(Tryz.strings_TrimPrefix _ _ _).mono ?_;rintro e w1 ⟨rfl,rfl⟩;rw[e1];exact⟨congrArg (fun l:List UInt8=>bQ (S l)) H.o,rfl⟩
 clear e1 H;go_enter func118,ntmps118;go_wp2_with fail;refine(HJ.o _).mono ?_;rintro e w1 ⟨rfl,rfl⟩;go_wp2;go_ret;exact⟨rfl,Bl.refl _⟩
theorem d7r{b:Nat}{st:Bool}{t:List UInt8}{k v1 v2:Int}{v3 xt xn:List UInt8}{o:Int}{a:Option Addr}{args:List Ex}{c:Nat}{al:List UInt8}(hx:e0m (.mk k (v1,v2,v3) xt xn o args))(hC:eH (.mk k (v1,v2,v3) xt xn o args)=true)
  (hl:(d4t (eY (.mk k (v1,v2,v3) xt xn o args)) al).length<=100000000) {W:World} (hR:gU W (.slice a args.length c) args) (hG:nD W) (hX:W.heap[b]?=some (.cells (e6e st t k v1 v2 v3 xt xn o (.slice a args.length c) al).toArray 103 (0,0))):
  eg 120 #[.pointer (some ⟨b,0,none⟩)] W fun e w'=>e= .returned (S (d4t (eY (.mk k (v1,v2,v3) xt xn o args)) al))/\Bl W w':=by
 have HT:Hid (∀w,Bl W w->eg 122 #[EV k (v1,v2,v3) xt xn o (.slice a args.length c)] w fun e w'=>e= .returned (S (eY (.mk k (v1,v2,v3) xt xn o args)))/\Bl w w'):=fun w hb=>d7h hx hC w _ ⟨_,rfl,hR.bl hb⟩ (hG.bl hb);have HA:=aB (fun W=>e0v _ al hl W);have HX:=aB hX;clear hx hC hl hR hG hX;generalize eY (.mk k (v1,v2,v3) xt xn o args)=u at *;generalize args.length=m at *;go_enter func120,ntmps120;go_wp2_with fail;refine wp_region_noPanic (bM (fun B=>B.heap[b]?=some (.cells (e6e st t k v1 v2 v3 xt xn o (.slice a m c) al).toArray 103 (0,0))) ((.take 0 (.take 1 (.take 3 (.take 4 (.one 2 (.one 5 (.take 6 .done)))))))) af af af (fun _ _ _ _ _ h=>h) (HX.o) ?_);intro wd HWD hY;iterate 4 (refine aI rfl ab (by intro w hSw;(try dsimp only at hSw);obtain⟨c0,c1,c2,c3,c4,c5,c6,c7,c8,c9,c10⟩:=d3y hSw;go_simp;(try(first |with_reducible rfl|rfl))) ?_;(try simp only[aK,aA,aD,aF]))
 refine aL rfl (fun K hK=>?_);go_simp;(refine(HT.o _ HWD.o).mono ?_;rintro e w3 ⟨rfl,hb3⟩;have hb:=hb3);go_wp2_with fail;refine hK.o _ _ (((hb.block _ (aC.1 hY).1).trans hY)) ?_;clear hY hK K;intro hY;clear hb;refine aL rfl (fun K hK=>?_);go_simp;(refine(HA.o _).mono ?_;rintro e w4 ⟨rfl,hb4⟩;have hb:=hb4);go_wp2_with fail;refine hK.o _ _ (((hb.block _ (aC.1 hY).1).trans hY)) ?_;clear hY hK K;intro hY;clear hb;refine aI rfl ab (by intro w hSw;(try dsimp only at hSw);obtain⟨c0,c1,c2,c3,c4,c5,c6,c7,c8,c9,c10⟩:=d3y hSw;go_simp;(try(first |with_reducible rfl|rfl))) ?_;(try simp only[aK,aA,aD,aF])
 refine fO (bF ?_);go_wp2;go_ret;exact⟨rfl,(Bl.call HWD.o hb3).call hb4⟩
end
section
theorem d6v(args:Array Value)(w:World):(callFunc 77 args).run prog w= .ok (.enter 77 args) w:=by simp[go_sem]
theorem e3t{t al:List UInt8}{x:Ex}(h:d3r ⟨true,t,x,al⟩=true):t=[]\/mO t=true:=by
 unfold d3r at h;simp only[if_pos,aQ] at h;have h3:d3c t=true:=h.2;unfold d3c at h3;simpa using h3
theorem e6s{t al:List UInt8}{x:Ex}(h:d3r ⟨false,t,x,al⟩=true):eH x=true:=by
 unfold d3r at h;rw[if_neg aa] at h;simp only[aQ] at h;exact h.1.2
theorem d8r{i:It}(hi:d3r i=true)(hok:e7f i)(hl:(d5x i).length<=100000000){p:Nat->Prop}{W:World}{s:Value}(hr:bG p W s i.x.args)(hG:nD W):eg 77 #[.agg (fIt.cells i s).toArray] W fun e w'=>e= .returned (S (d5x i))/\Bl W w':=by
 obtain⟨a,c,rfl⟩:=hr.shape;obtain⟨st,t,⟨k,⟨v1,v2,v3⟩,xt,xn,o,args⟩,al⟩:=i;have hR:gU W (.slice a args.length c) args:=hr.reads;have hX:=aN W (.cells #[.bool st,S t,.int .i64 k,.int .i64 v1,.int .i64 v2,S v3,S xt,S xn,.int .i64 o,.slice a args.length c,S al] 103);have hB:=(Bl.refl W).alloc (.cells #[.bool st,S t,.int .i64 k,.int .i64 v1,.int .i64 v2,S v3,S xt,S xn,.int .i64 o,.slice a args.length c,S al] 103);have hB2:=hB.alloc (.map #[bEnt true 118 W.heap.size 0,bEnt false 120 W.heap.size 1] 2);have hX2:=(aW (W.alloc (.cells #[.bool st,S t,.int .i64 k,.int .i64 v1,.int .i64 v2,S v3,S xt,S xn,.int .i64 o,.slice a args.length c,S al] 103)) (.map #[bEnt true 118 W.heap.size 0,bEnt false 120 W.heap.size 1] 2) aa).trans hX;have HF:Hid (eg (if st=true then 118 else 120) #[.pointer (some ⟨W.heap.size,0,none⟩)] ((W.alloc (.cells #[.bool st,S t,.int .i64 k,.int .i64 v1,.int .i64 v2,S v3,S xt,S xn,.int .i64 o,.slice a args.length c,S al] 103)).alloc (.map #[bEnt true 118 W.heap.size 0,bEnt false 120 W.heap.size 1] 2)) fun e w'=>e= .returned (S (d5x ⟨st,t,.mk k (v1,v2,v3) xt xn o args,al⟩))/\Bl ((W.alloc (.cells #[.bool st,S t,.int .i64 k,.int .i64 v1,.int .i64 v2,S v3,S xt,S xn,.int .i64 o,.slice a args.length c,S al] 103)).alloc (.map #[bEnt true 118 W.heap.size 0,bEnt false 120 W.heap.size 1] 2)) w'):=by
  cases st
  ·exact d7r (st:=false) (t:=t) hok.x (e6s hi) hl (hR.bl hB2) (hG.bl hB2) hX2
  ·have ht:=e3t hi;exact d7s (st:=true) ht (ht.elim (fun h=>by rw[h];simp) a6x) hX2
 have HB2:=aB hB2;have hmm:= @run_makeMap prog;have h0:=e7i (W.alloc (.cells #[.bool st,S t,.int .i64 k,.int .i64 v1,.int .i64 v2,S v3,S xt,S xn,.int .i64 o,.slice a args.length c,S al] 103)) W.heap.size;rw[aR] at h0;have h1:=e7h (W.alloc (.cells #[.bool st,S t,.int .i64 k,.int .i64 v1,.int .i64 v2,S v3,S xt,S xn,.int .i64 o,.slice a args.length c,S al] 103)) W.heap.size;rw[aR] at h1;have hlk:=e7g ((W.alloc (.cells #[.bool st,S t,.int .i64 k,.int .i64 v1,.int .i64 v2,S v3,S xt,S xn,.int .i64 o,.slice a args.length c,S al] 103)).alloc (.map #[bEnt true 118 W.heap.size 0,bEnt false 120 W.heap.size 1] 2)) W.heap.size (W.heap.size+1) (aV _ _ aa) st;generalize d5x ⟨st,t,.mk k (v1,v2,v3) xt xn o args,al⟩=u at *;show eg 77 #[.agg #[.bool st,S t,.int .i64 k,.int .i64 v1,.int .i64 v2,S v3,S xt,S xn,.int .i64 o,.slice a args.length c,S al]] W _;clear hR hr hG hok hi hl hX hB hB2 hX2;cases st
 all_goals
  simp only[fM,↓reduceIte] at HF hlk;go_enter func77,ntmps77;go_wp2_with fail;refine HF.o.mono ?_;rintro e w1 ⟨rfl,hb⟩;go_wp2;go_ret;exact⟨rfl,HB2.o.call hb⟩
structure e1b(W:World)(bq bf:Nat)(q:Qu)(ai:Option Addr)(ci:Nat)(aj:Option Addr)(cj:Nat)(aw:Option Addr)(cw:Nat)(ag:Option Addr)(cg:Nat)(ah:Option Addr)(ch:Nat)(ao:Option Addr)(co:Nat):Prop where
 x:W.heap[bq]?=some (.cells (quC q (.slice ai q.items.length ci) (.slice aj q.joins.length cj) (.slice aw q.wher.args.length cw) (.slice ag q.group.length cg) (.slice ah q.having.args.length ch) (.slice ao q.orders.length co)).toArray 41 (0,0))
 f:W.heap[bf]?=some (.cells #[.func (.func 159) #[] #[]] 132 (0,0))
 p:d2t (fun _=>True) W q (.slice ai q.items.length ci) (.slice aj q.joins.length cj) (.slice aw q.wher.args.length cw) (.slice ag q.group.length cg) (.slice ah q.having.args.length ch) (.slice ao q.orders.length co)
 g:nD W
section
variable {W:World} {bq bf:Nat} {q:Qu} {ai aj aw ag ah ao:Option Addr} {ci cj cw cg ch co:Nat}
theorem e1b.bl{W':World}(h:e1b W bq bf q ai ci aj cj aw cw ag cg ah ch ao co)(hb:Bl W W'):e1b W' bq bf q ai ci aj cj aw cw ag cg ah ch ao co:=
 ⟨(hb.block _ (aC.1 h.x).1).trans h.x,(hb.block _ (aC.1 h.f).1).trans h.f,h.p.bl hb,h.g.bl hb⟩
theorem d8m{α:Type}{l:List α}{tx:α->List UInt8}{w:World}{v:Value}(h:(l=[]/\∃a' d',v= .slice a' 0 d')\/sW w v (l.map tx))(hne:l≠[]):sW w v (l.map tx):=h.resolve_left fun h=>hne h.1
theorem d5g{s:List UInt8}{α:Type}{l:List α}{tx:α->List UInt8}{n:Nat}(h:(jR s (l.map tx)).length<=n):∀x∈l,(tx x).length<=n:=fun _ hx=>jH (d7l (List.mem_map_of_mem hx)) h
end
end
section
section
variable {W:World} {bq bf:Nat} {q:Qu} {ai aj aw ag ah ao:Option Addr} {ci cj cw cg ch co:Nat}
end
end
section
theorem FrB.own{W A B:World}{bs:Nat}{T:TypeId}{cs:Array Value}{r:Option Nat}(h:FrB W A bs T cs)(hg:A.grownBy B r)(hr:∀j,r=some j->W.heap.size+2<=j):FrB W B bs T cs:=
 have hz:=h.size
 ⟨⟨hg.1.trans h.grown.1,hg.2.trans h.grown.2,hg.3.trans h.grown.3,jH h.grown.4 hg.4,fun i hi hb=>(hg.block i aE (fun e=>by have:=hr i e.symm;omega)).trans (h.grown.block i hi hb)⟩,
  (hg.block _ aE (fun e=>by have:=hr _ e.symm;omega)).trans h.r,(hg.block _ aE (fun e=>by have:=hr _ e.symm;omega)).trans h.x⟩
end
section
section
variable {P:Program}
theorem d2v{fn:Func}{p:Tmp}{ty:TypeId}{q:Tmp}(h:fn.results= #[.cell p ty,.tmp q])(tmps:Array Value)(w:World)(g:Nat)(t:TypeId)(cs:Array Value)(d:TypeDesc)
  (hp:tmps.getD p undef= .pointer (some ⟨g,0,none⟩)) (hg:w.heap[g]?=some (.cells cs t (0,0))) (hu:P.underlying ty=some d) (hd:(match d with | .struct _| .array _ _=>true|_=>false)=true) (hi:(P.info? ty).map (·.size)=some cs.size):(results fn tmps).run P w= .ok (.tuple #[.agg cs,tmps.getD q undef]) w:=by
 have hp':tmps[p]?.getD undef= .pointer (some ⟨g,0,none⟩):=(by simpa using hp);have hl:=run_loadVar_row w g t ty cs (0,0) d hg hu (by cases d<;>first |rfl|cases hd) hi;simp[results,h,hp',asAddr,hl]
theorem d4s{fn:Func}{p:Tmp}{ty:TypeId}{q:Tmp}{u:TypeId}(h:fn.results= #[.cell p ty,.cell q u])(tmps:Array Value)(w:World)(g:Nat)(t:TypeId)(cs:Array Value)(d:TypeDesc)(a:Addr)(v:Value)
  (hp:tmps.getD p undef= .pointer (some ⟨g,0,none⟩)) (hg:w.heap[g]?=some (.cells cs t (0,0))) (hu:P.underlying ty=some d) (hd:(match d with | .struct _| .array _ _=>true|_=>false)=true) (hi:(P.info? ty).map (·.size)=some cs.size)
  (hq:tmps.getD q undef= .pointer (some a)) (hr:(loadVar u a).run P w= .ok v w):(results fn tmps).run P w= .ok (.tuple #[.agg cs,v]) w:=by
 have hp':tmps[p]?.getD undef= .pointer (some ⟨g,0,none⟩):=(by simpa using hp);have hq':tmps[q]?.getD undef= .pointer (some a):=(by simpa using hq);have hl:=run_loadVar_row w g t ty cs (0,0) d hg hu (by cases d<;>first |rfl|cases hd) hi;simp[results,h,hp',hq',asAddr,hl,hr]
end
abbrev zQ0:List Value:=[.bool false,.slice none 0 0,S [],S [],.slice none 0 0,.int .i64 0,.int .i64 0,.int .i64 0,S [],S [],S [],.int .i64 0,.slice none 0 0,.slice none 0 0,.int .i64 0,.int .i64 0,.int .i64 0,S [],S [],S [],.int .i64 0,.slice none 0 0,.slice none 0 0,.int .i64 0]
abbrev zQV:Value:=QV d3z d2i d2i d2i d2i d2i d2i
def e7d(bs g cap:Nat)(ts:List Tok)(k:Nat)(W:World)(e:Ending)(w':World):Prop:=
 W.grownBy w' (some bs)/\((∃k' q v,d5c ts k= .good k' q/\iV w' bs g cap ts k'/\e4e W.heap.size w' q v/\e= .returned (.tuple #[v,.int .i64 0]))\/
  (∃c,(c=260\/c=261\/c=270)/\d5c ts k= .bad c/\iV w' bs g cap ts k/\e= .returned (.tuple #[zQV,.int .i64 c])))
structure FrD(W A:World)(bs k:Nat)(T:TypeId)(cs:Array Value):Prop where
 grown:W.grownBy A (some bs)
 s:A.heap[W.heap.size]?=some (.cells #[.pointer (some ⟨bs,0,none⟩)] 66 (0,0))
 x:A.heap[W.heap.size+1]?=some (.cells cs T (0,0))
 e:A.heap[W.heap.size+2]?=some (.cells #[.int .i64 0] 47 (0,0))
 q:A.heap[W.heap.size+3]?=some (.cells #[.int .i64 (k:Int)] 3 (0,0))
theorem FrD.size{W A:World}{bs k:Nat}{T:TypeId}{cs:Array Value}(h:FrD W A bs k T cs):W.heap.size+3<A.heap.size:=(aC.1 h.q).1
theorem FrD.next{W A B:World}{bs k:Nat}{T:TypeId}{cs:Array Value}(h:FrD W A bs k T cs)(hb:bs<W.heap.size)(hg:A.grownBy B (some bs)):FrD W B bs k T cs:=
 have hz:=h.size
 ⟨dA h.grown hg,(hg.block _ aE (fun e=>by injection e with e;omega)).trans h.s,(hg.block _ aE (fun e=>by injection e with e;omega)).trans h.x,(hg.block _ aE (fun e=>by injection e with e;omega)).trans h.e,(hg.block _ aE (fun e=>by injection e with e;omega)).trans h.q⟩
theorem FrD.start(W:World)(bs k:Nat)(T:TypeId)(cs:Array Value):FrD W ((((W.alloc (.cells #[.pointer (some ⟨bs,0,none⟩)] 66)).alloc (.cells cs T)).alloc (.cells #[.int .i64 0] 47)).alloc (.cells #[.int .i64 (k:Int)] 3)) bs k T cs:=
 ⟨gI ((((Bl.refl W).alloc _).alloc _).alloc _ |>.alloc _) _,(aW _ _ (by simp<;>omega)).trans (uA _ _ _ _),(aW _ _ (by simp<;>omega)).trans (oZ _ _ _ _),(aW _ _ aa).trans (aV _ _ aa),aV _ _ aa⟩
theorem But.bl{W A B:World}(h:Bl W A)(hb:But W.heap.size A B):Bl W B:=iL h hb.grown h.size (fun j hj=>by injection hj with hj;subst hj;exact aH _)
end
section
section
variable {W:World} {q:Qu} {ai aj aw ag ah ao:Option Addr} {ci cj cw cg ch co:Nat}
end
end
end Go.Proofs.YtohlomdapelgeaaGreatDoor
