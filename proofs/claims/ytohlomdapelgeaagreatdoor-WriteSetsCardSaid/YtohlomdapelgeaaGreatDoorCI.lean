/- Texts MC X7 X8 MK YA YB QV. -/
import Derived.Test.YtohlomdapelgeaaGreatDoorCD
import Derived.Test.YtohlomdapelgeaaGreatDoorCC
import Derived.Deep.CutBlock
import Derived.Test.YtohlomdapelgeaaGreatDoorCB
import Derived.Maps.AppendAt
import Derived.Test.YtohlomdapelgeaaGreatDoorCE
import Derived.Test.YtohlomdapelgeaaGreatDoorCG
namespace Go.Proofs.YtohlomdapelgeaaGreatDoor
open _root_.Go.Proofs.Tryz
open Go.RowKit
open Go.RowKit Go.Shelf
open _root_.Go.Act renaming put->aK
open _root_.Go.Addr renaming add->dY
open _root_.And renaming intro->bT
open _root_.Array renaming getElem?_eq_some_iff->aC,replicate_succ->eX,replicate_zero->eU
open _root_.Go.RowKit.Below renaming grown->iL,refl->bS
open _root_.Go.Lib renaming cell_of_heap->aG,frozen_of_heap->aJ,hid->aB
open _root_.List renaming append_toArray->fD,cons_append->bE,ext_getElem->kX,length_append->bD,length_cons->aX,length_nil->bL,map_append->kW,map_cons->kP,map_nil->qZ,mem_of_getElem?->dJ,nil_append->cB,push_toArray->gH,range->iU,setIfInBounds_toArray->aA,set_cons_succ->aF,set_cons_zero->aD,size_toArray->gG
open _root_.Nat renaming le_refl->aH,le_trans->jH
open _root_.Go.Oper renaming semAt_some->nC
open _root_.Go.World renaming ownsRow_nil->d2l,size_alloc->aR
set_option maxRecDepth 100000
set_option maxHeartbeats 8000000
section
end
section
end
section
end
section
end
section
end
section
end
section
end
section
theorem b8m{A B:World}{a x:Nat}{oa ox:Obj}{r:Option Nat}(h:A.heap[a]?=some oa/\A.heap[x]?=some ox)(hg:A.grownBy B r)(ha:∀j,r=some j->a≠j)(hx:∀j,r=some j->x≠j):B.heap[a]?=some oa/\B.heap[x]?=some ox:=
 ⟨(hg.block _ (aC.1 h.1).1 (fun e=>ha a e.symm rfl)).trans h.1,(hg.block _ (aC.1 h.2).1 (fun e=>hx x e.symm rfl)).trans h.2⟩
end
section
end
section
end
section
end
section
theorem Bl.but{W A B:World}{b:Nat}(h:Bl W A)(hB:But b A B)(hb:W.heap.size<=b):Bl W B:=iL h hB.grown h.size fun k e=>by injection e with e;omega
def e5v{α:Type}(Z:World->Value->Prop)(R:World->α->Value->Prop)(g cap:Nat)(ts:List Tok)(W:World)(r:d2u α)(e:Ending)(w':World):Prop:=
 Bl W w'/\∃k v c,k<ts.length/\e= .returned (.tuple #[RS g ts.length cap k,v,.int .i64 c])/\((c=0/\∃x,r= .good k x/\R w' x v)\/((c=260\/c=261\/c=270)/\r= .bad c/\Z w' v))
theorem e5v.yes{α:Type}{Z:World->Value->Prop}{R:World->α->Value->Prop}{g cap:Nat}{ts:List Tok}{W:World}{r:d2u α}{w':World}{k:Nat}{x:α}{v:Value}(hb:Bl W w')(hk:k<ts.length)(hr:r= .good k x)(hx:R w' x v):e5v Z R g cap ts W r (.returned (.tuple #[RS g ts.length cap k,v,.int .i64 0])) w':=
 ⟨hb,k,v,0,hk,rfl,.inl ⟨rfl,x,hr,hx⟩⟩
theorem e5v.no{α:Type}{Z:World->Value->Prop}{R:World->α->Value->Prop}{g cap:Nat}{ts:List Tok}{W:World}{r:d2u α}{w':World}{k:Nat}{c:Int}{v:Value}(hb:Bl W w')(hk:k<ts.length)(hc:c=260\/c=261\/c=270)(hr:r= .bad c)(hz:Z w' v):e5v Z R g cap ts W r (.returned (.tuple #[RS g ts.length cap k,v,.int .i64 c])) w':=
 ⟨hb,k,v,c,hk,rfl,.inr ⟨hc,hr,hz⟩⟩
section
variable {W A B:World} {cs rs ys xs:List Value} {T:TypeId} {b:Nat}
theorem lt_of_heap{o:Obj}{i:Nat}(h:A.heap[i]?=some o):i<A.heap.size:=(aC.1 h).1
theorem eD{P:Program}{o:Oper}{a:Act}{w:World}{ty:TypeId}{x:Operand}{g:Nat}{t:TypeId}{cs:Array Value}{fr:Nat×Nat}{d:TypeDesc}(ho:o.op= .load ty x)(hx:a.eval x= .pointer (some ⟨g,0,none⟩))(hg:w.heap[g]?=some (.cells cs t fr))
  (hu:P.underlying ty=some d) (hd:(match d with | .struct _| .array _ _=>true|_=>false)=true) (hi:(P.info? ty).map (·.size)=some cs.size):(execOp a.eval o).run P w= .ok (.value (.agg cs)) w:=by
 unfold execOp;simp only[ho,hx,Instr.loadAt,Instr.sureAddr,Sem.run_bind,Sem.run_pure,Result.andThen_ok,run_loadVar_row w g t ty cs fr d hg hu hd hi]
theorem pV{A B:World}{b i j:Nat}{x y:Option Obj}(h:A.heap[i]?=x/\A.heap[j]?=y)(hB:But b A B)(h1:i≠b)(h2:j≠b):B.heap[i]?=x/\B.heap[j]?=y:=⟨(hB.same i h1).trans h.1,(hB.same j h2).trans h.2⟩
theorem eB{A B:World}{i j:Nat}{x y:Obj}(h:A.heap[i]?=some x/\A.heap[j]?=some y)(hb:Bl A B):B.heap[i]?=some x/\B.heap[j]?=some y:=⟨(hb.block i (lt_of_heap h.1)).trans h.1,(hb.block j (lt_of_heap h.2)).trans h.2⟩
def e6i(g cap:Nat)(ts:List Tok)(W:World)(r:d2u It)(e:Ending)(w':World):Prop:=Bl W w'/\∃k' it s c,k'<ts.length/\e= .returned (.tuple #[RS g ts.length cap k',.agg (fIt.cells it s).toArray,.int .i64 c])/\tT W.heap.size w' s it.x.args/\((c=0/\r= .good k' it)\/((c=260\/c=261\/c=270)/\r= .bad c))
end
end
section
abbrev iCs(st:Bool)(tt:List UInt8)(xk x1 x2:Int)(x3 xt xn:List UInt8)(xo:Int)(s:Value)(al:List UInt8):List Value:=[.bool st,S tt,.int .i64 xk,.int .i64 x1,.int .i64 x2,S x3,S xt,S xn,.int .i64 xo,s,S al]
theorem e6i.open{g cap:Nat}{ts:List Tok}{W:World}{r:d2u It}{e:Ending}{w':World}(h:e6i g cap ts W r e w'):Bl W w'/\∃k' st tt xk x1 x2 x3 xt xn xo xa asv csv al c,k'<ts.length/\e= .returned (.tuple #[RS g ts.length cap k',.agg (iCs st tt xk x1 x2 x3 xt xn xo (.slice asv xa.length csv) al).toArray,.int .i64 c])/\
  tT W.heap.size w' (.slice asv xa.length csv) xa/\((c=0/\r= .good k' ⟨st,tt,.mk xk (x1,x2,x3) xt xn xo xa,al⟩)\/((c=260\/c=261\/c=270)/\r= .bad c)):=by
 obtain⟨hb,k',⟨st,tt,⟨xk,⟨x1,x2,x3⟩,xt,xn,xo,xa⟩,al⟩,s,c,hk,he,hA,hc⟩:=h;obtain⟨a,n,rfl⟩:=hA.shape;exact⟨hb,_,_,_,_,_,_,_,_,_,_,_,_,_,_,_,hk,he,hA,hc⟩
theorem d3q{A B:World}{base b:Nat}{e:TypeId}{size n:Nat}{v:Value}{xs:List Value}(h:A.ownsRow base e size v n xs)(hb:But b A B)(hlt:b<base):B.ownsRow base e size v n xs:=
 d8t h hb (fun e=>by have:=(h.lt _ e.symm).1;omega)
end
section
attribute [local go_sem] nC
section
variable {W A B:World} {base size n:Nat} {e:TypeId} {v:Value} {xs:List Value}
theorem d9k(h:A.ownsRow base e size v n xs){row:Option Nat}(hg:A.grownBy B row)(hr:∀r,row=some r->∃o:Obj,A.heap[r]?=some o/\o.isCells=false):B.ownsRow base e size v n xs:=by
 refine⟨h.1,?_⟩;rcases h.2 with h0|⟨g,cap,cur,hv,hgb,hh,r⟩
 ·exact .inl h0
 ·refine .inr ⟨g,cap,cur,hv,hgb,(hg.block g (aC.1 hh).1 (fun e=>?_)).trans hh,r⟩;obtain⟨o,ho,hc⟩:=hr g e.symm;rw[hh] at ho;cases ho;cases hc
theorem e3p(h:A.ownsRow base e size v n xs)(hg:A.grownBy B v.ownBlock):KeepsOthers A B:=
 ⟨hg.size,fun k o hk ho=>(hg.block k (aC.1 hk).1 (fun e=>by
  rcases h.2 with⟨h0,-⟩|⟨g,cap,cur,hv,hgb,hh,r⟩
  ·rw[h0] at e;cases e
  ·rw[hv] at e;injection e with e;subst e;rw[hh] at hk;cases hk;cases ho)).trans hk⟩
theorem e3q{b:Nat}(h:But b A B){cs:Array Value}{t:TypeId}{z:Nat×Nat}(hx:A.heap[b]?=some (.cells cs t z)):KeepsOthers A B:=
 ⟨by rw[h.size];exact aH _,fun k o hk ho=>(h.same k (fun e=>by subst e;rw[hx] at hk;cases hk;cases ho)).trans hk⟩
theorem d6c(h:A.ownsRow base e size v n xs):∃a c,v= .slice a n c:=by
 rcases h.2 with⟨h0,h1⟩|⟨g,cap,cur,hv,hgb,hh,r⟩
 ·exact⟨none,0,by rw[h0,h1]⟩
 ·exact⟨_,_,hv⟩
theorem own_ne{b:Nat}{cs:Array Value}{T:TypeId}{z:Nat×Nat}(h:A.ownsRow base e size v n xs)(hx:A.heap[b]?=some (.cells cs T z))(hT:T≠e):v.ownBlock≠some b:=fun hb=>by
 rcases h.2 with⟨h0,-⟩|⟨g,cap,cur,hv,hgb,hh,r⟩
 ·rw[h0] at hb;cases hb
 ·rw[hv] at hb;injection hb with hb;subst hb;rw[hh] at hx;injection hx with hx;injection hx with _ hx _;exact hT hx.symm
theorem d2m{t:TypeId}{b:Nat}{u:Value}(h:Boxed A b t u)(hb:Bl A B):Boxed B b t u:=(hb.block _ h.lt).trans h
theorem d6y{α:Type}{l:List α}{z:α}(hz:z∈l)(j:Nat):l[j]?.getD z∈l:=by
 cases h:l[j]? with
 |none=>exact hz
 |some x=>exact dJ h
end
theorem d3g:(prog.info? 27).map (·.size)=some 1:=by kernel_rfl
theorem d2w{o:Oper}{a:Act}{w:World}{K:Act->World->Prop}{Q:Exit->Act->World->Prop}(s x:Operand)(ho:o.op= .call {callee:= .builtin .append,args:= #[s,x],argTypes:= #[27,27]})
  (base:Nat) (v:Value) (n:Nat) (xs:List Value) (hs:a.eval s=v) (hown:w.ownsRow base 9 1 v n xs) (b:Nat) (y:List UInt8) (hx:a.eval x= .slice (some ⟨b,0,none⟩) 1 1) {t:TypeId}
  (hb:w.heap[b]?=some (.cells #[S y] t (0,0))) (hfew:n<=1000000) (hbase:base<=w.heap.size)
  (h:∀v' w',w'.ownsRow base 9 1 v' (n+1) (xs++[S y])->w.grownBy w' v.ownBlock->(v'.ownBlock=v.ownBlock\/v'.ownBlock=some w.heap.size)->K (a.put o.dst v') w'):Oper.wp prog o a w K Q:=by
 obtain⟨i,hi,hz0,hz1,hz2⟩:=a1h;obtain⟨v',w',hr,h2,h3,h4,h5⟩:=run_append_own_at (P:=prog) w base 27 o.type 9 i (S []) 1 16 underlying27 hi hz0 hz1 hz2 rfl ae v n xs hown ⟨b,0,none⟩ 1 1 [S y] rfl
  (by
   intro j u hj
   match j,hj with
   |0,hj=>
    injection hj with hj;subst hj;have:w.cell? ⟨b,0,none⟩=some (S y):=(aG hb 0).trans rfl;simpa[dY] using this)
  (by intro u hu;simp at hu;subst hu;rfl) cG aE hbase
 unfold Oper.wp execOp;simp only[ho,resolve,invoke,builtin,Sem.run_bind,Sem.run_pure,Result.andThen_ok,List.map_toArray,kP,qZ,hs,hx,hr];exact h v' w' h2 h3 h5
structure d8a(W:World)(F:TypeId)(fv:Value)(g:Nat->Value)(pre:List Nat)(A:World):Prop where
 own:∃v,Boxed A (W.heap.size+1) 27 v/\A.ownsRow (W.heap.size+3) 9 1 v pre.length (pre.map g)
 f:Boxed A W.heap.size F fv
 bl:Below W.heap.size W A
 z:W.heap.size+3<=A.heap.size
theorem d5w(W:World)(F:TypeId)(fv:Value)(g:Nat->Value)(B0:Nat)(hB0:W.heap.size+3<=B0):OwnFrom B0 (d8a W F fv g):=by
 rintro pre A B row ⟨⟨v,h1,h2⟩,h3,h4,h5⟩ hg hr;have hne:∀i,i<W.heap.size+3->some i≠row:=fun i hi e=>(by have:=(hr i e.symm).1;omega);exact⟨⟨v,h1.kept hg (hne _ aE),d9k h2 hg fun r e=>(hr r e).2⟩,h3.kept hg (hne _ aE),h4.grown hg h4.size (fun k e=>by have:=(hr k e).1;omega),jH h5 hg.4⟩
theorem d8a.alloc{W A:World}{F:TypeId}{fv:Value}{g:Nat->Value}{pre:List Nat}(h:d8a W F fv g pre A)(o:Obj):d8a W F fv g pre (A.alloc o):=by
 obtain⟨⟨v,h1,h2⟩,h3,h4,h5⟩:=h;exact⟨⟨v,h1.alloc o,gY ((Bl.refl A).alloc _) h2⟩,h3.alloc o,h4.alloc h4.size o,by simp;omega⟩
theorem d2y{W A A1 A2 B:World}{F:TypeId}{fv:Value}{g:Nat->Value}{pre:List Nat}{j n0:Nat}{y:List UInt8}{v v':Value}(hT:d8a W F fv g pre A)(h1:Boxed A (W.heap.size+1) 27 v)(h2:A.ownsRow (W.heap.size+3) 9 1 v pre.length (pre.map g))
  (hb:Bl A A1) (hown:A2.ownsRow (W.heap.size+3) 9 1 v' (pre.length+1) (pre.map g++[S y])) (hg:A1.grownBy A2 v.ownBlock) (hB:But (W.heap.size+1) A2 B) (hx:B.heap[W.heap.size+1]?=some (.cells #[v'] 27 (0,0))) (hy:g j=S y):
  KeepsFrom n0 A B/\Below W.heap.size A B/\d8a W F fv g (pre++[j]) B:=by
 have hlow:=h2.lt;have hsz:=hb.size;have hA:=hT.z;have hm:A2.heap[W.heap.size+1]?=some (.cells #[v] 27 (0,0)):=(hg.block _ aE (fun e=>by have:=(hlow _ e.symm).1;omega)).trans ((hb.block _ h1.lt).trans h1);have hAB:Below W.heap.size A B:=((((bS _ A).trans (hb.mono hT.bl.size)).grown hg aE (fun k e=>by have:=(hlow k e).1;omega))).grown hB.grown (by have:=hg.4;omega) (fun k e=>by injection e with e;omega);refine⟨(((KeepsOthers.of_bl hb).trans (e3p (gY hb h2) hg)).trans (e3q hB hm)).from _,hAB,⟨⟨v',hx,?_⟩,?_,hT.bl.trans hAB,by have:=hAB.size;omega⟩⟩
 ·rw[kW,List.map_singleton,hy,bD];exact d3q hown hB aE
 ·exact(hB.same _ aE).trans ((hg.block _ (by have:=hT.f.lt;omega) (fun e=>by have:=(hlow _ e.symm).1;omega)).trans ((hb.block _ hT.f.lt).trans hT.f))
theorem d5k{W A:World}{D n:Nat}{a:Act}{fn:Func}{xs:List Value}{va:Option Addr}{vc:Nat}{R:World->Value->Prop}(hres:fn.results= #[.cell 4 27])(hD:W.heap.size+3<=D)(ht:a.tmps[4]?=some (.pointer (some ⟨W.heap.size+1,0,none⟩)))(hd:a.defers=[{target:= .collected D,args:= #[]}])
  (hh:Boxed A (W.heap.size+1) 27 (.slice va n vc)/\A.ownsRow (W.heap.size+3) 9 1 (.slice va n vc) n xs/\Below W.heap.size W A/\A.heap[D]?=some (.deferred (some []))) (hfin:∀w v,w.ownsRow (W.heap.size+3) 9 1 v n xs->R w v):
  bodyPostM Fence.wide 5 prog fn (fun e w'=>(∃v,e= .returned v/\R w' v)/\Bl W w') .ret a (A.setCell ⟨W.heap.size+1,0,none⟩ (.slice va n vc)):=by
 obtain⟨tm,df⟩:=a;simp only at ht hd;subst hd;obtain⟨h1,h2,h3,hK⟩:=hh;have hK':=(aM A ⟨W.heap.size+1,0,none⟩ (.slice va n vc) D (by show D≠W.heap.size+1;omega)).trans hK;refine⟨by simp,.inl ⟨_,_,rfl,run_takeDeferred hK',?_⟩⟩;have hgp:=grownBy_putObj' (A.setCell ⟨W.heap.size+1,0,none⟩ (.slice va n vc)) D (.deferred none);have b1:Boxed (A.setCell ⟨W.heap.size+1,0,none⟩ (.slice va n vc)) (W.heap.size+1) 27 (.slice va n vc):=h1.set _;have c:=(b1.kept hgp ak).cell;have hB:=h3.setCell (p:=⟨W.heap.size+1,0,none⟩) eW (.slice va n vc);refine⟨.slice va n vc,by simp[results,hres,go_sem,ht,c],⟨_,rfl,hfin _ _ (d9k (pO h2 (qA _ _ _) aE) hgp fun r e=>?_)⟩,hB.grown hgp hB.size (fun k e=>by cases e;omega)⟩;injection e with e;subst e;exact⟨_,hK',rfl⟩
theorem e1p{W:World}{sv:Value}{l:List It}{q:Nat->Prop}{tx:It->List UInt8}{fn:FuncId}(caps:Array Value)(hen:∀(args:Array Value) (w:World),(callFunc fn args).run prog w= .ok (.enter fn args) w)(hlen:l.length<=1000000)(hR:d2p fIt q W sv l)
  (hf:∀y∈l,∀(W':World) (s:Value),Bl W W'->bG q W' s (Form.ex fIt y).args->eg fn (#[.agg (fIt.cells y s).toArray]++caps) W' fun e w'=>e= .returned (S (tx y))/\Bl W' w'):
  eg 76 #[sv,.func (.func fn) #[] caps] W fun e w'=>(∃v,e= .returned v/\((l=[]/\∃a' d',v= .slice a' 0 d')\/sW w' v (l.map tx)))/\Bl W w':=by
 obtain⟨zs,hzs,hE0,hRq⟩:=d6w itZ hR;obtain⟨z,hz⟩:∃z:Wh It,zs≠[]->z∈zs:=by
  cases zs with
  |nil=>exact⟨itZ,fun h=>absurd rfl h⟩
  |cons q r=>exact⟨q,fun _=>by simp⟩
 have hE:=hE0.any z;obtain⟨a,cap,rfl,-⟩:=id hE;have hlz:zs.length<=1000000:=(by rw[<-hzs] at hlen;simpa using hlen);have HFEW:=aB hlz;have IH:Hid (∀(p:Wh It) (W':World),p∈zs->Bl W W'->eg fn (#[Form.v fIt p]++caps) W' fun e w'=>e= .returned (S (tx p.1))/\Bl W' w'):=fun p W' hp hb=>hf p.1 (by rw[<-hzs];exact List.mem_map_of_mem hp) W' (Form.sv fIt p) hb ((hRq p hp).bl hb);have HE:=aB hE;have HZ:=aB hz;have HFIN:Hid (∀(w:World) (v:Value),w.ownsRow (W.heap.size+3) 9 1 v zs.length ((iU zs.length).map fun j=>S (tx (zs[j]?.getD z).1))->(l=[]/\∃a' d',v= .slice a' 0 d')\/sW w v (l.map tx)):=fun w v h=>by
  have e:((iU zs.length).map fun j=>S (tx (zs[j]?.getD z).1))=(l.map tx).map fun s=>S s:=by
   rw[<-hzs];apply kX
   ·simp
   ·intro i h1 h2;have:i<zs.length:=cC;simp[this]
  rw[e] at h;have hl:zs.length=(l.map tx).length:=(by rw[<-hzs];simp);rw[hl] at h;rcases b8c h with⟨h1,h2⟩|h1
  ·exact .inl ⟨by simpa using h1,h2⟩
  ·exact .inr h1
 clear hR hf hzs hE0 hE hRq hz hlen;refine(callsIn_wide (n:=5)).1 ?_;refine callsIn_of_wp_marks func76 rfl trivial ?_ rfl;simp only[ntmps76,gG,aX,bL,Nat.reduceAdd,Nat.reduceSub,eX,eU,gH,fD,cB,bE]
 gi_wp2_with fail
 refine⟨trivial,?_⟩;refine(e4j Fence.wide 4 trivial rfl _ _ _ _).mono ?_;rintro e w' ⟨rfl,rfl⟩
 gi_wp2_with fail
 have b0:=Boxed.new W 141 (.func (.func fn) #[] caps);have b1:=Boxed.new (W.alloc (.cells #[.func (.func fn) #[] caps] 141)) 27 (.slice none 0 0);have b2:=Boxed.new ((W.alloc (.cells #[.func (.func fn) #[] caps] 141)).alloc (.cells #[.slice none 0 0] 27)) 29 (.slice a zs.length cap);simp only[aR] at b1 b2;have hB3:Bl W (((W.alloc (.cells #[.func (.func fn) #[] caps] 141)).alloc (.cells #[.slice none 0 0] 27)).alloc (.cells #[.slice a zs.length cap] 29)):=(((Bl.refl W).alloc _).alloc _).alloc _;have hsz:(((W.alloc (.cells #[.func (.func fn) #[] caps] 141)).alloc (.cells #[.slice none 0 0] 27)).alloc (.cells #[.slice a zs.length cap] 29)).heap.size=W.heap.size+3:=aa;have b0':=(b0.alloc (.cells #[.slice none 0 0] 27)).alloc (.cells #[.slice a zs.length cap] 29);have b1':=b1.alloc (.cells #[.slice a zs.length cap] 29);clear b0 b1;generalize (((W.alloc (.cells #[.func (.func fn) #[] caps] 141)).alloc (.cells #[.slice none 0 0] 27)).alloc (.cells #[.slice a zs.length cap] 29))=W3 at *;refine wpIn_rangeFunc_ownH rfl aE (gf:=179) (lb:= #[.pointer (some ⟨W.heap.size+1+1,0,none⟩)]) rfl trivial (enters_of func179 af rfl)
  (d9z z Fence.wide (5-1) trivial rfl aE (W.heap.size+1+1) W.heap.size _ zs HFEW.o W3 aE aE b2.cell (HE.o.below hB3)) belowK_t (belowK_b aE) (bS _ _) (fun _=>rfl)
  (d8a W 141 (.func (.func fn) #[] caps) fun j:Nat=>S (tx (zs[j]?.getD z).1)) (fun _ _ _=>False)
  (d5w W _ _ _ _ aE) (fun _ _ _ _ _ hs _ _=>hs)
  ⟨⟨_,b1',d2l _ _ _ _⟩,b0',hB3,by omega⟩
  (fun(j:Nat) a' A=>∃Bx,W.heap.size+3<=Bx/\A.heap[Bx]?=some (.cells (fIt.cells (zs[j]?.getD z).1 (Form.sv fIt (zs[j]?.getD z))).toArray 103 (0,0))/\
   a'={tmps:= #[.slice a zs.length cap,.func (.func fn) #[] caps,undef,.pointer (some ⟨W.heap.size,0,none⟩),.pointer (some ⟨W.heap.size+1,0,none⟩),.pointer (some ⟨Bx,0,none⟩),.slice a zs.length cap,.func (.func 179) #[] #[.pointer (some ⟨W.heap.size+1+1,0,none⟩)],Form.v fIt (zs[j]?.getD z),undef,undef,undef,undef,undef,undef,undef],defers:=[]})
  (fun j a' _ A B row hs hg hr=>by
   obtain⟨Bx,h0,h1,h2⟩:=hs;refine⟨Bx,h0,(hg.block Bx (aC.1 h1).1 (fun e=>?_)).trans h1,h2⟩;obtain⟨-,o,ho,hc⟩:=hr Bx e.symm;rw[h1] at ho;cases ho;cases hc)
  ?assign ?body ?done ?stop
 case assign=>
  rintro l pre j A K hI hK;have hIz:=hI.z
  revert hK
  generalize zs[j]?.getD z=p;obtain⟨⟨st,tt,⟨zk,⟨z1,z2,z3⟩,zt,zn,zo,za⟩,al⟩,ad,ca⟩:=p;have hv:Form.v fIt (⟨st,tt,⟨zk,⟨z1,z2,z3⟩,zt,zn,zo,za⟩,al⟩,ad,ca)= .agg #[.bool st,S tt,.int .i64 zk,.int .i64 z1,.int .i64 z2,S z3,S zt,S zn,.int .i64 zo,.slice ad za.length ca,S al]:=rfl;rw[hv];intro hK
  gi_wp2
  exact hK _ _ ((KeepsOthers.alloc _ _).from _) ((bS _ A).alloc hI.bl.size _) (hI.alloc _) ⟨A.heap.size,by omega,aN A _,rfl⟩
 case body=>
  rintro l pre j a' A hl ⟨r,hr⟩ hI ⟨Bx,hBx,hX,rfl⟩ hpl;have hmem:zs[j]?.getD z∈zs:=d6y (HZ.o (fun e=>by rw[e] at hpl;simp at hpl)) j;have HT:=aB hI;have HC:=aB (fun W' hb=>IH.o (zs[j]?.getD z) W' hmem hb);have HG:Hid ((fun j:Nat=>S (tx (zs[j]?.getD z).1)) j=S (tx (zs[j]?.getD z).1)):=rfl;generalize (fun j:Nat=>S (tx (zs[j]?.getD z).1))=gg at *;generalize zs[j]?.getD z=p at *;obtain⟨ty,hty⟩:∃ty,tx p.1=ty:=⟨_,rfl⟩
  rw[hty] at HG HC;clear hmem hty hr;obtain⟨⟨st,tt,⟨zk,⟨z1,z2,z3⟩,zt,zn,zo,za⟩,al⟩,ad,ca⟩:=p;have hv:Form.v fIt (⟨st,tt,⟨zk,⟨z1,z2,z3⟩,zt,zn,zo,za⟩,al⟩,ad,ca)= .agg #[.bool st,S tt,.int .i64 zk,.int .i64 z1,.int .i64 z2,S z3,S zt,S zn,.int .i64 zo,.slice ad za.length ca,S al]:=rfl;rw[hv] at HC⊢
  replace hX:A.heap[Bx]?=some (.cells #[.bool st,S tt,.int .i64 zk,.int .i64 z1,.int .i64 z2,S z3,S zt,S zn,.int .i64 zo,.slice ad za.length ca,S al] 103 (0,0)):=hX
  clear hv;obtain⟨v,h1,h2⟩:=hI.own;have H1:=aB h1;have H2:=aB h2;have hlow:=aB h2.lt;have HNE:Hid (v.ownBlock≠some Bx):=own_ne h2 hX ae;have hz:=hI.z;have hlz2:pre.length<=1000000:=(by have:=HFEW.o;omega);clear hI h2
  gi_wp2_with fail
  refine(d3p (fun B=>B.heap[W.heap.size]?=some (.cells #[.func (.func fn) #[] caps] 141 (0,0))/\B.heap[Bx]?=some (.cells #[.bool st,S tt,.int .i64 zk,.int .i64 z1,.int .i64 z2,S z3,S zt,S zn,.int .i64 zo,.slice ad za.length ca,S al] 103 (0,0))) ((.take 1 (.take 2 (.two 0 3 (.one 3 (.one 4 (.one 5 (.one 6 .done)))) (.two 0 4 (.one 4 (.one 5 (.one 6 .done))) (.one 0 (.one 5 (.one 6 .done)))))))) af af af (fun c a d v w h=>by cases d<;>exact h) af (fun a w h=>h) (eB ⟨HT.o.f,hX⟩ ((Bl.refl _).drew)) ?_);intro wd HWD hY;refine aI rfl ab (by intro w hSw;(try dsimp only at hSw);have a0:=cK hSw.1;go_simp;(try(first |with_reducible rfl|rfl))) ?_;(try simp only[aK,aA,aD,aF])
  refine aI rfl ab (fun w hSw=>eD rfl rfl hSw.2 underlying103 rfl d3l) ?_;(try simp only[aK,aA,aD,aF])
  refine sZ ?_ ?_
  focus
   try have c0a:=((d2m H1.o (Bl.call HWD.o hb3)).alloc (.cells #[S ty] 9)).cell
   try have c0b:=(d2m H1.o (Bl.call HWD.o hb3)).cell
   have c0c:=(d2m H1.o HWD.o).cell;refine aL rfl (fun K hK=>?_);go_simp;refine hK.o _ _ (hY) ?_;clear hY hK K;intro hY;refine aL rfl (fun K hK=>?_);go_simp;(refine(HC.o _ (Bl.call HT.o.bl HWD.o)).mono ?_;rintro e w3 ⟨rfl,hb3⟩;have hb:=hb3);go_wp2_with fail;refine hK.o _ _ ((by first |exact eB hY hb|exact pV hY hb aE aE)) ?_;clear hY hK K;intro hY;clear hb;refine aL rfl (fun K hK=>?_);go_simp;refine hK.o _ _ ((eB hY ((Bl.refl _).alloc _))) ?_;clear hY hK K;intro hY;refine aL rfl (fun K hK=>?_);rw[if_pos ab];refine d2w (.tmp 9) (.tmp 13) rfl (W.heap.size+3) v pre.length (pre.map gg) rfl (gY ((HWD.o.call hb3).alloc _) H2.o) w3.heap.size ty rfl (aN w3 _) hlz2 cS ?_;intro v' w5 hown5 hg5 hat;refine hK.o _ _ (b8m hY hg5 (fun i e h=>by subst h;have:=(hlow.o _ e).1;omega) (fun i e h=>by subst h;exact HNE.o e)) (fun hY2=>?_);clear hY hK K;have hY:=hY2;clear hY2;have HM5:=aB ((hg5.block (W.heap.size+1) cS (fun e=>by have:=(hlow.o _ e.symm).1;omega)).trans ((aW _ _ (by have:=(HWD.o.call hb3).size;omega)).trans (((HWD.o.call hb3).block _ (Boxed.lt H1.o)).trans H1.o)));obtain⟨g5,cap5,rfl⟩:=nG hown5;refine aL rfl (fun K hK=>?_);rw[if_pos ab];refine bC rfl rfl rfl ([.slice (some ⟨g5,0,none⟩) (pre.length+1) cap5]) HM5.o rfl rfl d3g rfl ?_;intro w6 hB6 hX6;refine hK.o _ _ ((by first |exact eB hY hB6|exact pV hY hB6 aE aE)) ?_;clear hY hK K;intro hY;(try simp only[aK])
   refine fO ?_;exact d2y HT.o H1.o H2.o ((HWD.o.call hb3).alloc _) hown5 hg5 hB6 hX6 HG.o
  rotate_left 1
  focus
   refine aL rfl (fun K hK=>?_);go_simp;(refine(HC.o _ (Bl.call HT.o.bl HWD.o)).mono ?_;rintro e w3 ⟨rfl,hb3⟩;have hb:=hb3);go_wp2_with fail;refine hK.o _ _ ((by first |exact eB hY hb|exact pV hY hb aE aE)) ?_;clear hY hK K;intro hY;clear hb;refine sZ ?_ ?_
   focus
    try have c0a:=((d2m H1.o (Bl.call HWD.o hb3)).alloc (.cells #[S ty] 9)).cell
    try have c0b:=(d2m H1.o (Bl.call HWD.o hb3)).cell
    have c0c:=(d2m H1.o HWD.o).cell;refine aL rfl (fun K hK=>?_);go_simp;refine hK.o _ _ (hY) ?_;clear hY hK K;intro hY;refine aL rfl (fun K hK=>?_);go_simp;refine hK.o _ _ ((eB hY ((Bl.refl _).alloc _))) ?_;clear hY hK K;intro hY;refine aL rfl (fun K hK=>?_);rw[if_pos ab];refine d2w (.tmp 9) (.tmp 13) rfl (W.heap.size+3) v pre.length (pre.map gg) rfl (gY ((HWD.o.call hb3).alloc _) H2.o) w3.heap.size ty rfl (aN w3 _) hlz2 cS ?_;intro v' w5 hown5 hg5 hat;refine hK.o _ _ (b8m hY hg5 (fun i e h=>by subst h;have:=(hlow.o _ e).1;omega) (fun i e h=>by subst h;exact HNE.o e)) (fun hY2=>?_);clear hY hK K;have hY:=hY2;clear hY2;have HM5:=aB ((hg5.block (W.heap.size+1) cS (fun e=>by have:=(hlow.o _ e.symm).1;omega)).trans ((aW _ _ (by have:=(HWD.o.call hb3).size;omega)).trans (((HWD.o.call hb3).block _ (Boxed.lt H1.o)).trans H1.o)));obtain⟨g5,cap5,rfl⟩:=nG hown5;refine aL rfl (fun K hK=>?_);rw[if_pos ab];refine bC rfl rfl rfl ([.slice (some ⟨g5,0,none⟩) (pre.length+1) cap5]) HM5.o rfl rfl d3g rfl ?_;intro w6 hB6 hX6;refine hK.o _ _ ((by first |exact eB hY hB6|exact pV hY hB6 aE aE)) ?_;clear hY hK K;intro hY;(try simp only[aK])
    refine fO ?_;exact d2y HT.o H1.o H2.o ((HWD.o.call hb3).alloc _) hown5 hg5 hB6 hX6 HG.o
   rotate_left 1
   focus
    refine aL rfl (fun K hK=>?_);go_simp;refine hK.o _ _ ((eB hY ((Bl.refl _).alloc _))) ?_;clear hY hK K;intro hY
    try have c0a:=((d2m H1.o (Bl.call HWD.o hb3)).alloc (.cells #[S ty] 9)).cell
    try have c0b:=(d2m H1.o (Bl.call HWD.o hb3)).cell
    have c0c:=(d2m H1.o HWD.o).cell;refine aL rfl (fun K hK=>?_);go_simp;refine hK.o _ _ (hY) ?_;clear hY hK K;intro hY;refine aL rfl (fun K hK=>?_);rw[if_pos ab];refine d2w (.tmp 9) (.tmp 13) rfl (W.heap.size+3) v pre.length (pre.map gg) rfl (gY ((HWD.o.call hb3).alloc _) H2.o) w3.heap.size ty rfl (aN w3 _) hlz2 cS ?_;intro v' w5 hown5 hg5 hat;refine hK.o _ _ (b8m hY hg5 (fun i e h=>by subst h;have:=(hlow.o _ e).1;omega) (fun i e h=>by subst h;exact HNE.o e)) (fun hY2=>?_);clear hY hK K;have hY:=hY2;clear hY2;have HM5:=aB ((hg5.block (W.heap.size+1) cS (fun e=>by have:=(hlow.o _ e.symm).1;omega)).trans ((aW _ _ (by have:=(HWD.o.call hb3).size;omega)).trans (((HWD.o.call hb3).block _ (Boxed.lt H1.o)).trans H1.o)));obtain⟨g5,cap5,rfl⟩:=nG hown5;refine aL rfl (fun K hK=>?_);rw[if_pos ab];refine bC rfl rfl rfl ([.slice (some ⟨g5,0,none⟩) (pre.length+1) cap5]) HM5.o rfl rfl d3g rfl ?_;intro w6 hB6 hX6;refine hK.o _ _ ((by first |exact eB hY hB6|exact pV hY hB6 aE aE)) ?_;clear hY hK K;intro hY;(try simp only[aK])
    refine fO ?_;exact d2y HT.o H1.o H2.o ((HWD.o.call hb3).alloc _) hown5 hg5 hB6 hX6 HG.o
 case done=>
  rintro D ys A hD rfl hI hK;obtain⟨v,h1,h2⟩:=hI.own;rw[List.length_range] at h2;obtain⟨va,vc,rfl⟩:=d6c h2;have c0:=h1.cell;have z0:=aJ (show A.heap[W.heap.size+1]?=_ from h1) 0;have HH:=aB (bT h1 (bT h2 (bT hI.bl hK)));have hDz:W.heap.size+3<=D:=aE;have hne:W.heap.size+1<W.heap.size+3:=aE;clear hK h1 h2 hI
  gi_wp2
  exact d5k (R:=fun w v=>(l=[]/\∃a' d',v= .slice a' 0 d')\/sW w v (l.map tx)) rfl hDz rfl rfl HH.o HFIN.o
 case stop=>
  rintro D c pre A _ _ h _;exact h.elim
end
end Go.Proofs.YtohlomdapelgeaaGreatDoor
