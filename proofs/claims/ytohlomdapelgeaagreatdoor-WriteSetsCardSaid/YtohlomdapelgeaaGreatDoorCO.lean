/- Texts Q5 SB Q6 SC. -/
import Derived.Test.YtohlomdapelgeaaGreatDoorCN
import Derived.Test.YtohlomdapelgeaaGreatDoorCE
import Derived.Test.YtohlomdapelgeaaGreatDoorCM
import Derived.Test.YtohlomdapelgeaaGreatDoorCD
import Derived.Maps.AppendAt
namespace Go.Proofs.YtohlomdapelgeaaGreatDoor
open _root_.Go.Proofs.Tryz
open Go.RowKit
open _root_.Go.Addr renaming add->dY
open _root_.And renaming intro->bT
open _root_.Array renaming getElem?_eq_some_iff->aC,replicate->kD
open _root_.Go.Lib renaming cell_of_heap->aG,hid->aB
open _root_.List renaming all_eq_true->jA,getElem?_eq_getElem->aP,length_append->bD,map_append->kW,map_cons->kP,map_nil->qZ,mem_append->iX,mem_singleton->gQ
open _root_.Nat renaming le_refl->aH,le_trans->jH,zero_add->gD,zero_le->dL
open _root_.Option renaming map_some->lX
open _root_.Go.World renaming ownsRow_nil->d2l,size_alloc->aR
set_option maxRecDepth 100000
set_option maxHeartbeats 4000000
section
end
section
theorem zmust_yes(n:Int)(w:World):
  eg 94 #[.bool true,.int .i64 n] w fun e w'=>e= .returned (.tuple #[])/\w=w':=by
 go_enter func94,ntmps94;go_wp2;go_end0;exact⟨rfl,rfl⟩
theorem zmust_no(n:Int)(w:World):
  eg 94 #[.bool false,.int .i64 n] w fun e w'=>e= .panicked [{v:= .iface 47 (.int .i64 n),recovered:=false}]/\w=w':=by
 go_enter func94,ntmps94;go_wp2;exact⟨rfl,rfl,rfl⟩
theorem zcaught_idle(p:Addr)(g:Value)(w:World):
  CallsD prog 49 #[.pointer (some p),g] .returning w fun e u' w'=>e= .returned (.tuple #[])/\u'= .returning/\w=w':=by
 refine callsD_of_wpS func49 rfl fun c₀ cs hu=>?_;apply wpS_seq;apply wpS_region;simp[wpOpsS,go_sem,recoverD,hu,ntmps49,Exit.thenS];refine wpS_of_wp ?_;go_wp2;cases c₀
 simp_all [bodyPostS,results,results49]
theorem zcaught_panic(p:Addr)(x n:Int)(g:FuncId)(first cap args:Array Value)(ha:first++cap=args)(w:World)(R:World->Prop)(hc:w.cell? p=some (.int .i64 x))(hz:w.frozen? p=false)
  (hg:∀(args:Array Value) (w:World),(callFunc g args).run prog w= .ok (.enter g args) w)
  (hclear:eg g args (w.setCell p (.int .i64 n)) fun e w'=>e= .returned (.tuple #[])/\R w'):
  CallsD prog 49 #[.pointer (some p),.func (.func g) first cap] (.panicking [{v:= .iface 47 (.int .i64 n),recovered:=false}]) w fun e u' w'=>
   e= .returned (.tuple #[])/\u'= .panicking [{v:= .iface 47 (.int .i64 n),recovered:=true}]/\R w':=by
 subst ha;refine callsD_of_wpS func49 rfl fun c₀ cs hu=>?_;apply wpS_seq;apply wpS_region;simp[wpOpsS,go_sem,recoverD,hu,ntmps49,Exit.thenS];refine wpS_of_wp ?_;have H:=aB hclear;clear hclear;have hta:∀w,(Instr.typeAssert (.iface 47 (.int .i64 n)) 20 47 false).run prog w= .ok (.int .i64 n) w:=fun _=>af;rw[show ∀a b x:Value,#[a,b]++(((kD 12 undef).setIfInBounds 3 x).setIfInBounds 2 x)= #[a,b,undef,undef,x,x,undef,undef,undef,undef,undef,undef,undef,undef] from fun _ _ _=>rfl];go_wp2_with fail;refine H.o.mono ?_;rintro e w' ⟨rfl,hR⟩;go_wp2_with fail;cases c₀
 simp_all [bodyPostS,results,results49]
structure FrZ(W A:World)(bs:Nat)(T:TypeId)(cs:Array Value):Prop where
 grown:W.grownBy A (some bs)
 r:A.heap[W.heap.size]?=some (.cells #[.pointer (some ⟨bs,0,none⟩)] 122 (0,0))
 x:A.heap[W.heap.size+1]?=some (.cells cs T (0,0))
theorem FrZ.size{W A:World}{bs:Nat}{T:TypeId}{cs:Array Value}(h:FrZ W A bs T cs):W.heap.size+1<A.heap.size:=(aC.1 h.x).1
theorem FrZ.next{W A B:World}{bs:Nat}{T:TypeId}{cs:Array Value}(h:FrZ W A bs T cs)(hb:bs<W.heap.size)(hg:A.grownBy B (some bs)):FrZ W B bs T cs:=
 have hz:=h.size
 ⟨dA h.grown hg,(hg.block _ aE (fun e=>by injection e with e;omega)).trans h.r,(hg.block _ aE (fun e=>by injection e with e;omega)).trans h.x⟩
theorem FrZ.bl{W A B:World}{bs:Nat}{T:TypeId}{cs:Array Value}(h:FrZ W A bs T cs)(hb:Bl A B):FrZ W B bs T cs:=
 ⟨dA h.grown (gI hb _),(hb.block _ (by have:=h.size;omega)).trans h.r,(hb.block _ h.size).trans h.x⟩
theorem FrZ.start(W:World)(bs:Nat)(T:TypeId)(cs:Array Value):FrZ W ((W.alloc (.cells #[.pointer (some ⟨bs,0,none⟩)] 122)).alloc (.cells cs T)) bs T cs:=
 ⟨gI (((Bl.refl W).alloc _).alloc _) _,(aW _ _ aa).trans (aN _ _),aV _ _ aa⟩
theorem FrZ.set{W A:World}{bs:Nat}{T:TypeId}{cs:Array Value}(h:FrZ W A bs T cs)(i:Nat)(v:Value):FrZ W (A.setCell ⟨W.heap.size+1,i,none⟩ v) bs T (cs.setIfInBounds i v):=
 ⟨dP h.grown i aE v,(aM _ ⟨W.heap.size+1,i,none⟩ _ _ ee).trans h.r,lN h.x i v⟩
theorem zneed_yes{W:World}{bs g cap k k':Nat}{ts:List Tok}(h:iV W bs g cap ts k)(xs:List (List UInt8))(ht:bH ts k xs=some k')(cs:Array Value)(n b:Nat)(t:TypeId)(hcs:cs=(xs.map fun s=>S s).toArray)(hn:n=xs.length)(hm:xs.length<=1000000)(hb:b=W.heap.size):
  eg 193 #[RV bs,.slice (some ⟨b,0,none⟩) n n] (W.alloc (.cells cs t)) fun e w'=>e= .returned (.tuple #[])/\W.grownBy w' (some bs)/\iV w' bs g cap ts k':=by
 have H:=aB h;have hbl:=h.lt';subst hcs hn hb;have HB0:=aB (((Bl.refl W).alloc (.cells (xs.map fun s=>S s).toArray t)).alloc (.cells #[.pointer (some ⟨bs,0,none⟩)] 122));have HX:=aB (a7l (n₀:=((W.alloc (.cells (xs.map fun s=>S s).toArray t)).alloc (.cells #[.pointer (some ⟨bs,0,none⟩)] 122)).heap.size) (x:=bs) ((aW (W.alloc (.cells (xs.map fun s=>S s).toArray t)) (.cells #[.pointer (some ⟨bs,0,none⟩)] 122) aa).trans (aN W (.cells (xs.map fun s=>S s).toArray t))) ak aE);have HT:=aB ht;clear h ht;go_enter func193,ntmps193;go_wp2_with fail;refine(b4q (H.o.bl HB0.o) _ xs HX.o hm).mono ?_;rintro e w1 ⟨hg,hh⟩;rcases hh with⟨k2,h1,rfl,hs⟩|⟨h1,rfl,hs⟩
 ·rw[HT.o] at h1;injection h1 with h1;subst h1;have HS:=aB (bT (dA (gI HB0.o (some bs)) hg) hs);clear hg hs;go_wp2_with fail
  (with_reducible refine(zmust_yes _ _).mono ?_)
  rintro e w' ⟨rfl,rfl⟩;go_wp2;go_end0;exact⟨rfl,HS.o.1,HS.o.2⟩
 ·rw[HT.o] at h1;cases h1
theorem zneed_no{W:World}{bs g cap k:Nat}{ts:List Tok}(h:iV W bs g cap ts k)(xs:List (List UInt8))(ht:bH ts k xs=none)(cs:Array Value)(n b:Nat)(t:TypeId)(hcs:cs=(xs.map fun s=>S s).toArray)(hn:n=xs.length)(hm:xs.length<=1000000)(hb:b=W.heap.size):
  eg 193 #[RV bs,.slice (some ⟨b,0,none⟩) n n] (W.alloc (.cells cs t)) fun e w'=>e=Pan 261/\W.grownBy w' (some bs)/\iV w' bs g cap ts k:=by
 have H:=aB h;have hbl:=h.lt';subst hcs hn hb;have HB0:=aB (((Bl.refl W).alloc (.cells (xs.map fun s=>S s).toArray t)).alloc (.cells #[.pointer (some ⟨bs,0,none⟩)] 122));have HX:=aB (a7l (n₀:=((W.alloc (.cells (xs.map fun s=>S s).toArray t)).alloc (.cells #[.pointer (some ⟨bs,0,none⟩)] 122)).heap.size) (x:=bs) ((aW (W.alloc (.cells (xs.map fun s=>S s).toArray t)) (.cells #[.pointer (some ⟨bs,0,none⟩)] 122) aa).trans (aN W (.cells (xs.map fun s=>S s).toArray t))) ak aE);have HT:=aB ht;clear h ht;go_enter func193,ntmps193;go_wp2_with fail;refine(b4q (H.o.bl HB0.o) _ xs HX.o hm).mono ?_;rintro e w1 ⟨hg,hh⟩;rcases hh with⟨k2,h1,rfl,hs⟩|⟨h1,rfl,hs⟩
 ·rw[HT.o] at h1;cases h1
 ·have HS:=aB (bT (dA (gI HB0.o (some bs)) hg) hs);clear hg hs;go_wp2_with fail
  (with_reducible refine(zmust_no _ _).mono ?_)
  rintro e w' ⟨rfl,rfl⟩;go_wp2;exact⟨rfl,rfl,HS.o.1,HS.o.2⟩
theorem zname_yes{W:World}{bs g cap k k':Nat}{ts:List Tok}{n:List UInt8}(h:iV W bs g cap ts k)(hn:mM ts k=some (n,k')):eg 137 #[RV bs] W fun e w'=>e= .returned (S n)/\W.grownBy w' (some bs)/\iV w' bs g cap ts k':=by
 have HB0:=aB ((Bl.refl W).alloc (.cells #[.pointer (some ⟨bs,0,none⟩)] 122));have HN:=aB hn;clear hn;have H:=aB h;have hbl:=h.lt';have hgl:=h.gl;clear h;go_enter func137,ntmps137;go_wp2_with fail;refine(a3p (H.o.bl HB0.o) HN.o).mono ?_;rintro e w1 ⟨rfl,hg,hs⟩;have HS:=aB (bT (dA (gI HB0.o (some bs)) hg) hs);clear hg hs;go_wp2_with fail
 (with_reducible refine(zmust_yes _ _).mono ?_)
 rintro e w' ⟨rfl,rfl⟩;go_wp2;go_ret;exact⟨rfl,HS.o.1,HS.o.2⟩
theorem zname_no{W:World}{bs g cap k:Nat}{ts:List Tok}(h:iV W bs g cap ts k)(hn:mM ts k=none):eg 137 #[RV bs] W fun e w'=>e=Pan 261/\W.grownBy w' (some bs)/\iV w' bs g cap ts k:=by
 have HB0:=aB ((Bl.refl W).alloc (.cells #[.pointer (some ⟨bs,0,none⟩)] 122));have HN:=aB hn;clear hn;have H:=aB h;have hbl:=h.lt';have hgl:=h.gl;clear h;go_enter func137,ntmps137;go_wp2_with fail;refine(a8a (H.o.bl HB0.o) HN.o).mono ?_;rintro e w1 ⟨rfl,hg,hs⟩;have HS:=aB (bT (dA (gI HB0.o (some bs)) hg) hs);clear hg hs;go_wp2_with fail
 (with_reducible refine(zmust_no _ _).mono ?_)
 rintro e w' ⟨rfl,rfl⟩;go_wp2;exact⟨rfl,rfl,HS.o.1,HS.o.2⟩
theorem zname_any{W:World}{bs g cap k:Nat}{ts:List Tok}(h:iV W bs g cap ts k):eg 137 #[RV bs] W (d2o e7a bs g cap ts W (nameRW ts k)):=by
 cases hn:mM ts k with
 |none=>exact(zname_no h hn).mono fun e w' ⟨he,hg,hs⟩=>by subst he;exact d2o.no hg hs (.inr (.inl rfl)) (by unfold nameRW;rw[hn])
 |some q=>
  obtain⟨n,k'⟩:=q;exact(zname_yes h hn).mono fun e w' ⟨he,hg,hs⟩=>by subst he;exact d2o.yes hg hs (by unfold nameRW;rw[hn]) rfl
theorem zexpr_any{W:World}{bs g cap k:Nat}{ts:List Tok}(h:iV W bs g cap ts k)(hT:lC ts):eg 196 #[RV bs] W (d2o (d7p fEx W.heap.size) bs g cap ts W (d3j ts k)):=by
 have HB0:=aB (((Bl.refl W).alloc (.cells #[.pointer (some ⟨bs,0,none⟩)] 122)).alloc (.cells zC 38));have HF0:=aB (FrZ.start W bs 38 zC);have HT:=aB hT;obtain⟨R,HR⟩:∃R,Hid (R=d3j ts k):=⟨_,rfl⟩
 rw[<-HR.o];clear hT;have H:=aB h;have hbl:=h.lt';have hgl:=h.gl;clear h;go_enter func196,ntmps196;go_wp2_with fail;refine(b3p (H.o.bl HB0.o) HT.o).mono ?_;intro e w1 hp;obtain⟨hg1,hp⟩:=hp;have HF1:=aB (HF0.o.next hbl hg1);have hz1:=HF1.o.size;rcases hp with⟨k',x,v,hr,hs,hx,rfl⟩|⟨c,hc,hr,hs,rfl⟩
 ·have HE:=aB (show R= .good k' x from by rw[HR.o];unfold d3j;rw[hr]);have HS1:=aB hs;obtain⟨sv,rfl,hA⟩:=hx;obtain⟨a,c,rfl⟩:=hA.shape;obtain⟨xk,⟨x1,x2,x3⟩,xt,xn,xo,xa⟩:=x;simp only[Ex.k,Ex.v,Ex.t,Ex.n,Ex.o,Ex.args] at hA⊢;have HA1:=aB (show bG (fun b=>W.heap.size+2<=b) w1 (.slice a xa.length c) xa from hA.of fun b _ (hb:_<=b)=>by simp at hb;omega);clear hg1 hr hs hA;go_wp2_with fail
  (with_reducible refine(zmust_yes _ _).mono ?_)
  rintro e w' ⟨rfl,rfl⟩;have HB1:=aB ((Bl.refl w1).alloc (.cells #[.int .i64 xk,.int .i64 x1,.int .i64 x2,S x3,S xt,S xn,.int .i64 xo,.slice a xa.length c] 38));have HF2:=aB (HF1.o.bl HB1.o);obtain⟨⟨i0,i1,i2,i3,i4,i5,i6,i7⟩,f0,f2,f3,f4,f5,f6,f7,f8⟩:=eight HF1.o.x;go_wp2;obtain⟨⟨q0,q1,q2,q3,q4,q5,q6,q7⟩,-⟩:=eight ((aW (set8 w1 (W.heap.size+1) (.int .i64 xk) (.int .i64 x1) (.int .i64 x2) (S x3) (S xt) (S xn) (.int .i64 xo) (.slice a xa.length c)) (.cells #[.int .i64 xk,.int .i64 x1,.int .i64 x2,S x3,S xt,S xn,.int .i64 xo,.slice a xa.length c] 38) (by rw[zU];omega)).trans (bO HF1.o.x (.int .i64 xk) (.int .i64 x1) (.int .i64 x2) (S x3) (S xt) (S xn) (.int .i64 xo) (.slice a xa.length c)));refine bodyPost_ret (v:=EV xk (x1,x2,x3) xt xn xo (.slice a xa.length c)) (by simp[results,results196,go_sem,q0,q1,q2,q3,q4,q5,q6,q7]) rfl ?_;have hg9:=vU (uY HF1.o.grown (b:=W.heap.size+1) aE (.int .i64 xk) (.int .i64 x1) (.int .i64 x2) (S x3) (S xt) (S xn) (.int .i64 xo) (.slice a xa.length c)) (.cells #[.int .i64 xk,.int .i64 x1,.int .i64 x2,S x3,S xt,S xn,.int .i64 xo,.slice a xa.length c] 38);have hs9:=(HS1.o.set8 (b:=W.heap.size+1) aE aE (.int .i64 xk) (.int .i64 x1) (.int .i64 x2) (S x3) (S xt) (S xn) (.int .i64 xo) (.slice a xa.length c)).bl ((Bl.refl _).alloc (.cells #[.int .i64 xk,.int .i64 x1,.int .i64 x2,S x3,S xt,S xn,.int .i64 xo,.slice a xa.length c] 38));have hr9:=(HA1.o.set8' (b:=W.heap.size+1) (fun i (hi:_<=i)=>by omega) (.int .i64 xk) (.int .i64 x1) (.int .i64 x2) (S x3) (S xt) (S xn) (.int .i64 xo) (.slice a xa.length c)).bl ((Bl.refl _).alloc (.cells #[.int .i64 xk,.int .i64 x1,.int .i64 x2,S x3,S xt,S xn,.int .i64 xo,.slice a xa.length c] 38));exact d2o.yes hg9 hs9 HE.o (e3d (tT.low hr9 aE))
 ·have HE:=aB (show R= .bad c from by rw[HR.o];unfold d3j;rw[hr]);have HS1:=aB hs;clear hg1 hr hs;have hb:(c==0)=false:=by rcases hc with rfl|rfl<;>rfl
  go_wp2_with fail
  (with_reducible refine(zmust_no _ _).mono ?_)
  rintro e w' ⟨rfl,rfl⟩;go_wp2;exact⟨rfl,d2o.no (dA HF1.o.grown (gI ((Bl.refl w1).alloc _) _)) (HS1.o.bl ((Bl.refl w1).alloc _)) (by rcases hc with h|h<;>simp[h]) HE.o⟩
structure FrY(W A:World)(bs:Nat):Prop where
 grown:W.grownBy A (some bs)
 r:A.heap[W.heap.size]?=some (.cells #[.pointer (some ⟨bs,0,none⟩)] 122 (0,0))
theorem FrY.size{W A:World}{bs:Nat}(h:FrY W A bs):W.heap.size<A.heap.size:=(aC.1 h.r).1
theorem FrY.next{W A B:World}{bs:Nat}(h:FrY W A bs)(hb:bs<W.heap.size)(hg:A.grownBy B (some bs)):FrY W B bs:=
 have hz:=h.size
 ⟨dA h.grown hg,(hg.block _ aE (fun e=>by injection e with e;omega)).trans h.r⟩
theorem FrY.bl{W A B:World}{bs:Nat}(h:FrY W A bs)(hb:Bl A B):FrY W B bs:=⟨dA h.grown (gI hb _),(hb.block _ h.size).trans h.r⟩
theorem FrY.start(W:World)(bs:Nat):FrY W (W.alloc (.cells #[.pointer (some ⟨bs,0,none⟩)] 122)) bs:=⟨gI ((Bl.refl W).alloc _) _,aN _ _⟩
theorem FrY.own{W A B:World}{bs:Nat}{r:Option Nat}(h:FrY W A bs)(hg:A.grownBy B r)(hr:∀j,r=some j->W.heap.size+1<=j):FrY W B bs:=
 have hz:=h.size
 ⟨⟨hg.1.trans h.grown.1,hg.2.trans h.grown.2,hg.3.trans h.grown.3,jH h.grown.4 hg.4,fun i hi hb=>(hg.block i aE (fun e=>by have:=hr i e.symm;omega)).trans (h.grown.block i hi hb)⟩,
  (hg.block _ aE (fun e=>by have:=hr _ e.symm;omega)).trans h.r⟩
end
section
end
section
section
variable {P:Program}
theorem append_rowZ{o:Oper}{a:Act}{w:World}{K:Act->World->Prop}{Q:Exit->Act->World->Prop}(s x:Operand){TS T:TypeId}(ho:o.op= .call {callee:= .builtin .append,args:= #[s,x],argTypes:= #[TS,TS]}){N BY:Nat}{Z:Value}
  (hT:(P.info? T).map (fun i=>(i.zero,i.size,i.bytes))=some (some Z,N,BY)) (hu:P.underlying TS=some (.slice T)) (hZ:Z.cells.size=N) (hN:0<N) (hBY:BY<=1000)
  (base:Nat) (v:Value) (n:Nat) (xs:List Value) (hs:a.eval s=v) (hown:w.ownsRow base T N v n xs) (b:Nat) (cs:List Value) (hx:a.eval x= .slice (some ⟨b,0,none⟩) 1 1) {t:TypeId}
  (hb:w.heap[b]?=some (.cells cs.toArray t (0,0))) (hcs:cs.length=N) (h1:cs.all (·.oneCell')=true) (hfew:n<=1000000) (hbase:base<=w.heap.size)
  (h:∀v' w',w'.ownsRow base T N v' (n+1) (xs++cs)->w.grownBy w' v.ownBlock->(v'.ownBlock=v.ownBlock\/v'.ownBlock=some w.heap.size)->K (a.put o.dst v') w'):Oper.wp P o a w K Q:=by
 obtain⟨i,hi,hz0,hz1,hz2⟩:∃i,P.info? T=some i/\i.zero=some Z/\i.size=N/\i.bytes=BY:=by
  cases hi:P.info? T with
  |none=>rw[hi] at hT;cases hT
  |some i=>
   rw[hi] at hT;simp only[lX,Option.some.injEq,Prod.mk.injEq] at hT;exact⟨i,rfl,hT.1,hT.2.1,hT.2.2⟩
 obtain⟨v',w',hr,h2,h3,h4,h5⟩:=run_append_own_at (P:=P) w base TS o.type T i Z N BY hu hi hz0 hz1 hz2 hZ hN v n xs hown ⟨b,0,none⟩ 1 1 cs aE
  (by
   intro j u hj;have:w.cell? ⟨b,0+j,none⟩=some u:=by
    rw[aG hb,gD,<-hj];simp
   have e:(⟨b,0,none⟩:Addr).add j=⟨b,0+j,none⟩:=(by simp[dY];intro h;exact h.symm);rw[e];exact this)
  (fun u hu=>jA.1 h1 u hu) cG (by
   have:=Nat.mul_le_mul (show n+1<=1000001 by omega) hBY;omega) hbase
 unfold Oper.wp execOp;simp only[ho,resolve,invoke,builtin,Sem.run_bind,Sem.run_pure,Result.andThen_ok,List.map_toArray,kP,qZ,hs,hx,hr];exact h v' w' h2 h3 h5
theorem wpList_append_rowZ{ops:Array Oper}{rest:List Oper}{o:Oper}{a:Act}{w:World}{Q:Exit->Act->World->Prop}(hgd:o.guard=none)(s x:Operand){TS T:TypeId}(ho:o.op= .call {callee:= .builtin .append,args:= #[s,x],argTypes:= #[TS,TS]}){N BY:Nat}{Z:Value}
  (hT:(P.info? T).map (fun i=>(i.zero,i.size,i.bytes))=some (some Z,N,BY)) (hu:P.underlying TS=some (.slice T)) (hZ:Z.cells.size=N) (hN:0<N) (hBY:BY<=1000)
  (base:Nat) (v:Value) (n:Nat) (xs:List Value) (hs:a.eval s=v) (hown:w.ownsRow base T N v n xs) (b:Nat) (cs:List Value) (hx:a.eval x= .slice (some ⟨b,0,none⟩) 1 1) {t:TypeId}
  (hb:w.heap[b]?=some (.cells cs.toArray t (0,0))) (hcs:cs.length=N) (h1:cs.all (·.oneCell')=true) (hfew:n<=1000000) (hbase:base<=w.heap.size)
  (h:∀v' w',w'.ownsRow base T N v' (n+1) (xs++cs)->w.grownBy w' v.ownBlock->(v'.ownBlock=v.ownBlock\/v'.ownBlock=some w.heap.size)->wpList P ops Q rest (a.put o.dst v') w'):wpList P ops Q (o::rest) a w:=
 wpList_plain hgd fun _ hK=>append_rowZ s x ho hT hu hZ hN hBY base v n xs hs hown b cs hx hb hcs h1 hfew hbase fun v' w' h1 h2 h3=>hK _ _ (h v' w' h1 h2 h3)
end
def ReadsG{α:Type}(F:Shp α)(n:Nat)(w:World)(x:α)(v:Value):Prop:=∃cs,v.cells=cs.toArray/\F.lies (fun b=>n<=b) w x cs
abbrev RowsGV{α:Type}(F:Shp α)(n:Nat)(w:World)(l:List α)(v:Value):Prop:=RowsG F (fun b=>n<=b) w v l
theorem d2o.map{α:Type}{R R':World->α->Value->Prop}{bs g cap:Nat}{ts:List Tok}{W:World}{r:d2u α}{e:Ending}{w':World}(h:d2o R bs g cap ts W r e w')(hr:∀w x v,R w x v->R' w x v):d2o R' bs g cap ts W r e w':=by
 obtain⟨hg,k',hs,h⟩:=h;exact⟨hg,k',hs,h.imp (fun⟨x,v,h1,h2,h3⟩=>⟨x,v,h1,hr _ _ _ h2,h3⟩) id⟩
theorem readsG_text{n:Nat}{w:World}{x:List UInt8}{v:Value}(h:e7a w x v):ReadsG gStr n w x v:=⟨[S x],by rw[show v=S x from h];rfl,rfl⟩
theorem readsG_ex{n:Nat}{w:World}{x:Ex}{v:Value}(h:d7p fEx n w x v):ReadsG gEx n w x v:=by
 obtain⟨s,rfl,hA⟩:=h;exact⟨_,rfl,s,rfl,hA⟩
theorem readsG_row{n:Nat}{w:World}{l:List Ex}{v:Value}(h:RowsG gEx (fun b=>n<=b) w v l):ReadsG gRow n w l v:=by
 obtain⟨a,cap,rfl,-,hc⟩:=h;refine⟨[.slice a l.length cap],rfl,_,rfl,?_⟩;have hs:∀j,∃s:Value,∀x,l[j]?=some x->∃b off,a=some ⟨b,off,none⟩/\n<=b/\At8 w b (off+j * 8) x s/\bG (fun b=>n<=b) w s x.args:=fun j=>by
  cases hx:l[j]? with
  |none=>exact⟨.slice none 0 0,fun x h=>by cases h⟩
  |some x=>
   obtain⟨b,off,cs,e,hb,-,h8,s,rfl,hr⟩:=hc j x hx;exact⟨s,fun y hy=>by injection hy with hy;subst hy;exact⟨b,off,e,hb,yI fun i hi=>(h8 i _ (aP hi)).trans (aP hi).symm,hr⟩⟩
 obtain⟨G,hG⟩:=Classical.axiomOfChoice hs;refine .mk a cap l G (fun j x hx=>?_) (fun j x hx=>?_)
 ·obtain⟨b,off,e,hb,h8,-⟩:=hG j x hx;exact⟨b,off,e,hb,h8⟩
 ·obtain⟨b,off,e,hb,-,hr⟩:=hG j x hx;exact hr
theorem readsE_row{n:Nat}{w:World}{l:List Ex}{v:Value}(h:RowsG gEx (fun b=>n<=b) w v l):bG (fun b=>n<=b) w v l:=by
 obtain⟨cs,e,s,rfl,hr⟩:=readsG_row h;obtain⟨a,cap,rfl,-⟩:=h;have e:(#[Value.slice a l.length cap]:Array Value)= #[s]:=e;have e2:Value.slice a l.length cap=s:=ba;rw[e2];exact hr
theorem stInfoZ:(prog.info? 9).map (·.size)=some 1:=by kernel_rfl
theorem strInfoZ:(prog.info? 9).map (fun i=>(i.zero,i.size,i.bytes))=some (some (S []),1,16):=by kernel_rfl
theorem zname_g{W:World}{bs g cap k:Nat}{ts:List Tok}(h:iV W bs g cap ts k)(_:lC ts):eg 137 #[RV bs] W (d2o (ReadsG gStr W.heap.size) bs g cap ts W (nameRW ts k)):=(zname_any h).mono fun _ _ h=>h.map fun _ _ _ hr=>readsG_text hr
theorem zexpr_g{W:World}{bs g cap k:Nat}{ts:List Tok}(h:iV W bs g cap ts k)(hT:lC ts):eg 196 #[RV bs] W (d2o (ReadsG gEx W.heap.size) bs g cap ts W (d3j ts k)):=(zexpr_any h hT).mono fun _ _ h=>h.map fun _ _ _ hr=>readsG_ex hr
theorem zlistStr_any{W:World}{bs g cap k:Nat}{ts:List Tok}(h:iV W bs g cap ts k)(hT:lC ts):eg 247 #[RV bs,.func (.func 137) #[RV bs] #[]] W (d2o (RowsGV gStr W.heap.size) bs g cap ts W (d3o ts (nameRW ts) ts.length k [])):=by
 obtain⟨R,HR⟩:∃R,Hid (R=d3o ts (nameRW ts) ts.length k []):=⟨_,rfl⟩
 rw[<-HR.o];have HL0:=aB (show d8b ts (nameRW ts) R k [] from by rw[HR.o];exact d8b.start ts _ k);have HF0:=aB (FrY.start W bs);have HTK:=aB hT;have HS0:=aB (h.bl ((Bl.refl W).alloc (.cells #[.pointer (some ⟨bs,0,none⟩)] 122)));have hbl:=h.lt';have hgl:=h.gl;have HI1:=aB (show(prog.info? 9).map (fun i=>(i.zero.isSome,i.size))=some (true,1) from by kernel_rfl);have HI2:=aB (show(prog.info? 9).map (fun i=>(i.zero,i.size,i.bytes))=some (some (S []),1,16) from by kernel_rfl);clear h hT;go_enter func247,ntmps247;go_wp2_with fail;go_loopw [4] (fun o wr=>∃(v0:Value) (kk:Nat) (acc:List (_×List Value)),v0=o/\acc.length<=kk/\Hid (FrY W wr bs)/\Hid (iV wr bs g cap ts kk)/\Hid (wr.ownsRow (W.heap.size+1) 9 1 v0 acc.length (rowG acc))/\
  Hid (∀q∈acc,Shp.lies gStr (apartG (W.heap.size+1) wr v0) wr q.1 q.2)/\Hid (d8b ts (nameRW ts) R kk (acc.map (·.1)))) (fun _ wr=>ts.length-tH wr bs)
 case atStart=>exact⟨_,k,[],rfl,dL _,HF0.o,HS0.o,d2l _ _ _ _,aB (fun q hq=>by cases hq),HL0.o⟩
 case round=>
  clear HF0 HS0 HL0 HR;obtain⟨v0,kk,acc,rfl,hak,HF,HS,HO,HTR,HL⟩:=hrel;have hkk:=HS.o.lt;have hfew:=HS.o.few;have hzr:=HF.o.size;have p0:=cK HF.o.r;have HP:Hid (∀k1 x,nameRW ts kk= .good k1 x->kk<k1/\k1<ts.length):=fun k1 x h=>(nameRW_past HTK.o h)
  have HST:=aB (HL.o.step hkk fun k1 x h=>(HP.o k1 x h).1);go_wp2_with fail;refine(zname_g HS.o HTK.o).mono ?_;intro e w1 hp;obtain⟨hg1,k1,hs1,hcase⟩:=hp;have hz1:=hg1.4;have HF1:=aB (HF.o.next hbl hg1);have HS1:=aB hs1;have HO1:=aB (pO HO.o hg1 aE);have HTR1:=aB (show ∀q∈acc,Shp.lies gStr (apartG (W.heap.size+1) w1 v0) w1 q.1 q.2 from fun q hq=>lies_grown (HTR.o q hq) hg1 aE);have hlow:=aB HO.o.lt;clear p0 hg1 hs1;rcases hcase with⟨x,v,hr,hA,rfl⟩|⟨c,hc,hr,rfl⟩
  rotate_left
  ·have HB:=aB (HST.o.1 c hr);clear hr;go_wp2;exact⟨rfl,d2o.no HF1.o.grown HS1.o hc HB.o⟩
  obtain⟨cs,hvc,hcs⟩:=hA;have hcl:=Shp.len gStr hcs;have hco:=Shp.one gStr hcs;have HZ:=aB (show Shp.lies gStr (apartG (W.heap.size+1) w1 v0) w1 x cs from Shp.keep gStr (aH _) (fun b hl (hb:_<=b)=>⟨by omega,hl,fun e=>by have:=(hlow.o b e.symm).2;omega⟩) (fun _ _ _=>rfl) hcs);have HVC:=aB hvc;have HCL:=aB (show cs.length=1 from hcl);have HCO:=aB hco;have hlt1:=HP.o _ _ hr;have HG:=aB (HST.o.2 _ _ hr);clear hr hcs hvc hcl hco;go_wp2_with (first |(refine d8l (vs:=cs) rfl (t:=27) (y:= .tmp 7) rfl underlying27 HVC.o (by rw[HCL.o];exact HI1.o) bk ?_)|(at_builtin;refine wpList_append_rowZ rfl (.tmp 5) (.tmp 8) rfl HI2.o underlying27 rfl ae ae (W.heap.size+1) v0 acc.length (rowG acc) rfl (gY ((Bl.refl _).alloc _) HO1.o) w1.heap.size cs rfl (aN w1 _) HCL.o HCO.o aE am ?_))
  intro v' w6 hown6 hg6 hat;have HF6:=aB ((HF1.o.bl ((Bl.refl _).alloc _)).own hg6 (fun j e=>by have:=(hlow.o j e).1;omega));have HS6:=aB ((HS1.o.bl ((Bl.refl _).alloc _)).keep (hg6.block _ am (fun e=>by have:=(hlow.o _ e.symm).1;omega)) (hg6.block _ am (fun e=>by have:=(hlow.o _ e.symm).1;omega)));have HTR6:=aB (show ∀q∈acc++[(x,cs)],Shp.lies gStr (apartG (W.heap.size+1) w6 v') w6 q.1 q.2 from fun q hq=>by rcases iX.1 hq with hq|hq;exact lies_own (lies_bl (HTR1.o q hq) ((Bl.refl _).alloc _)) hg6 bz;obtain rfl:=gQ.1 hq;exact lies_own (lies_bl HZ.o ((Bl.refl _).alloc _)) hg6 bz);obtain⟨gn,cn,rfl⟩:=nG hown6;have HOW6:=aB (show w6.ownsRow (W.heap.size+1) 9 1 (.slice (some ⟨gn,0,none⟩) (acc.length+1) cn) (acc++[(x,cs)]).length (rowG (acc++[(x,cs)])) from by rw[bD,show rowG (acc++[(x,cs)])=rowG acc++cs from by simp[rowG]];exact hown6);have hz6:=HF6.o.size;have a0:=cK HF6.o.r;clear hown6 hg6 hat;cases ht:bH ts k1 [[44]] with
  |some k2=>
   have hk2:=kS HTK.o hlt1.2 ht;have HL6:=aB (HG.o.1 k2 ht hk2.1);have HT:=aB ht;clear ht;go_wp2_with fail;refine(jD HS6.o [[44]] HT.o _ 1 _ _ rfl rfl aa aa).mono ?_;rintro e w7 ⟨rfl,hg7,hs7⟩;have HG7:=aB hg7;have HS7:=aB hs7;clear hg7 hs7;go_wp2;go_roundw
   case rel=>exact⟨_,k2,acc++[(x,cs)],rfl,by rw[bD];simp;omega,HF6.o.next hbl HG7.o,HS7.o,pO HOW6.o HG7.o aE,aB (fun q hq=>lies_grown (HTR6.o q hq) HG7.o aE),by rw[kW];exact HL6.o⟩
   case measure=>have n1:=kY HS.o;have n2:=kY HS7.o;rw[n1,n2];omega
  |none=>
   have HE:=aB (HG.o.2 ht);have HT:=aB ht;clear ht;go_wp2_with fail;refine(kM HS6.o [[44]] HT.o _ 1 _ _ rfl rfl aa aa).mono ?_;rintro e w7 ⟨rfl,hg7,hs7⟩;have HG7:=aB hg7;have HS7:=aB hs7;clear hg7 hs7;go_wp2;go_ret;have hO7:=pO HOW6.o HG7.o aE;have hrows:=rows_ownG (F:=gStr) (l:=acc++[(x,cs)]) (p:=fun b=>W.heap.size<=b) hO7 (fun b hb _ _=>by omega) (fun q hq=>Shp.keep gStr (aH _) (fun b _ hb=>by have:=hb.1;omega) (fun _ _ _=>rfl) (lies_grown (HTR6.o q hq) HG7.o aE));rw[kW] at hrows;exact d2o.yes (HF6.o.next hbl HG7.o).grown HS7.o HE.o hrows
theorem zlistEx_any{W:World}{bs g cap k:Nat}{ts:List Tok}(h:iV W bs g cap ts k)(hT:lC ts):eg 291 #[RV bs,.func (.func 196) #[RV bs] #[]] W (d2o (RowsGV gEx W.heap.size) bs g cap ts W (d3o ts (d3j ts) ts.length k [])):=by
 obtain⟨R,HR⟩:∃R,Hid (R=d3o ts (d3j ts) ts.length k []):=⟨_,rfl⟩
 rw[<-HR.o];have HL0:=aB (show d8b ts (d3j ts) R k [] from by rw[HR.o];exact d8b.start ts _ k);have HF0:=aB (FrY.start W bs);have HTK:=aB hT;have HS0:=aB (h.bl ((Bl.refl W).alloc (.cells #[.pointer (some ⟨bs,0,none⟩)] 122)));have hbl:=h.lt';have hgl:=h.gl;have HI1:=aB (show(prog.info? 38).map (fun i=>(i.zero.isSome,i.size))=some (true,8) from by kernel_rfl);have HI2:=aB (show(prog.info? 38).map (fun i=>(i.zero,i.size,i.bytes))=some (some (.agg #[.int .i64 0,.int .i64 0,.int .i64 0,S [],S [],S [],.int .i64 0,.slice none 0 0]),8,104) from by kernel_rfl);clear h hT;go_enter func291,ntmps291;go_wp2_with fail;go_loopw [4] (fun o wr=>∃(v0:Value) (kk:Nat) (acc:List (_×List Value)),v0=o/\acc.length<=kk/\Hid (FrY W wr bs)/\Hid (iV wr bs g cap ts kk)/\Hid (wr.ownsRow (W.heap.size+1) 38 8 v0 acc.length (rowG acc))/\
  Hid (∀q∈acc,Shp.lies gEx (apartG (W.heap.size+1) wr v0) wr q.1 q.2)/\Hid (d8b ts (d3j ts) R kk (acc.map (·.1)))) (fun _ wr=>ts.length-tH wr bs)
 case atStart=>exact⟨_,k,[],rfl,dL _,HF0.o,HS0.o,d2l _ _ _ _,aB (fun q hq=>by cases hq),HL0.o⟩
 case round=>
  clear HF0 HS0 HL0 HR;obtain⟨v0,kk,acc,rfl,hak,HF,HS,HO,HTR,HL⟩:=hrel;have hkk:=HS.o.lt;have hfew:=HS.o.few;have hzr:=HF.o.size;have p0:=cK HF.o.r;have HP:Hid (∀k1 x,d3j ts kk= .good k1 x->kk<k1/\k1<ts.length):=fun k1 x h=>(d4j HTK.o hkk h)
  have HST:=aB (HL.o.step hkk fun k1 x h=>(HP.o k1 x h).1);go_wp2_with fail;refine(zexpr_g HS.o HTK.o).mono ?_;intro e w1 hp;obtain⟨hg1,k1,hs1,hcase⟩:=hp;have hz1:=hg1.4;have HF1:=aB (HF.o.next hbl hg1);have HS1:=aB hs1;have HO1:=aB (pO HO.o hg1 aE);have HTR1:=aB (show ∀q∈acc,Shp.lies gEx (apartG (W.heap.size+1) w1 v0) w1 q.1 q.2 from fun q hq=>lies_grown (HTR.o q hq) hg1 aE);have hlow:=aB HO.o.lt;clear p0 hg1 hs1;rcases hcase with⟨x,v,hr,hA,rfl⟩|⟨c,hc,hr,rfl⟩
  rotate_left
  ·have HB:=aB (HST.o.1 c hr);clear hr;go_wp2;exact⟨rfl,d2o.no HF1.o.grown HS1.o hc HB.o⟩
  obtain⟨cs,hvc,hcs⟩:=hA;have hcl:=Shp.len gEx hcs;have hco:=Shp.one gEx hcs;have HZ:=aB (show Shp.lies gEx (apartG (W.heap.size+1) w1 v0) w1 x cs from Shp.keep gEx (aH _) (fun b hl (hb:_<=b)=>⟨by omega,hl,fun e=>by have:=(hlow.o b e.symm).2;omega⟩) (fun _ _ _=>rfl) hcs);have HVC:=aB hvc;have HCL:=aB (show cs.length=8 from hcl);have HCO:=aB hco;have hlt1:=HP.o _ _ hr;have HG:=aB (HST.o.2 _ _ hr);clear hr hcs hvc hcl hco;go_wp2_with (first |(refine d8l (vs:=cs) rfl (t:=36) (y:= .tmp 7) rfl underlying36 HVC.o (by rw[HCL.o];exact HI1.o) bk ?_)|(at_builtin;refine wpList_append_rowZ rfl (.tmp 5) (.tmp 8) rfl HI2.o underlying36 rfl ae ae (W.heap.size+1) v0 acc.length (rowG acc) rfl (gY ((Bl.refl _).alloc _) HO1.o) w1.heap.size cs rfl (aN w1 _) HCL.o HCO.o aE am ?_))
  intro v' w6 hown6 hg6 hat;have HF6:=aB ((HF1.o.bl ((Bl.refl _).alloc _)).own hg6 (fun j e=>by have:=(hlow.o j e).1;omega));have HS6:=aB ((HS1.o.bl ((Bl.refl _).alloc _)).keep (hg6.block _ am (fun e=>by have:=(hlow.o _ e.symm).1;omega)) (hg6.block _ am (fun e=>by have:=(hlow.o _ e.symm).1;omega)));have HTR6:=aB (show ∀q∈acc++[(x,cs)],Shp.lies gEx (apartG (W.heap.size+1) w6 v') w6 q.1 q.2 from fun q hq=>by rcases iX.1 hq with hq|hq;exact lies_own (lies_bl (HTR1.o q hq) ((Bl.refl _).alloc _)) hg6 bz;obtain rfl:=gQ.1 hq;exact lies_own (lies_bl HZ.o ((Bl.refl _).alloc _)) hg6 bz);obtain⟨gn,cn,rfl⟩:=nG hown6;have HOW6:=aB (show w6.ownsRow (W.heap.size+1) 38 8 (.slice (some ⟨gn,0,none⟩) (acc.length+1) cn) (acc++[(x,cs)]).length (rowG (acc++[(x,cs)])) from by rw[bD,show rowG (acc++[(x,cs)])=rowG acc++cs from by simp[rowG]];exact hown6);have hz6:=HF6.o.size;have a0:=cK HF6.o.r;clear hown6 hg6 hat;cases ht:bH ts k1 [[44]] with
  |some k2=>
   have hk2:=kS HTK.o hlt1.2 ht;have HL6:=aB (HG.o.1 k2 ht hk2.1);have HT:=aB ht;clear ht;go_wp2_with fail;refine(jD HS6.o [[44]] HT.o _ 1 _ _ rfl rfl aa aa).mono ?_;rintro e w7 ⟨rfl,hg7,hs7⟩;have HG7:=aB hg7;have HS7:=aB hs7;clear hg7 hs7;go_wp2;go_roundw
   case rel=>exact⟨_,k2,acc++[(x,cs)],rfl,by rw[bD];simp;omega,HF6.o.next hbl HG7.o,HS7.o,pO HOW6.o HG7.o aE,aB (fun q hq=>lies_grown (HTR6.o q hq) HG7.o aE),by rw[kW];exact HL6.o⟩
   case measure=>have n1:=kY HS.o;have n2:=kY HS7.o;rw[n1,n2];omega
  |none=>
   have HE:=aB (HG.o.2 ht);have HT:=aB ht;clear ht;go_wp2_with fail;refine(kM HS6.o [[44]] HT.o _ 1 _ _ rfl rfl aa aa).mono ?_;rintro e w7 ⟨rfl,hg7,hs7⟩;have HG7:=aB hg7;have HS7:=aB hs7;clear hg7 hs7;go_wp2;go_ret;have hO7:=pO HOW6.o HG7.o aE;have hrows:=rows_ownG (F:=gEx) (l:=acc++[(x,cs)]) (p:=fun b=>W.heap.size<=b) hO7 (fun b hb _ _=>by omega) (fun q hq=>Shp.keep gEx (aH _) (fun b _ hb=>by have:=hb.1;omega) (fun _ _ _=>rfl) (lies_grown (HTR6.o q hq) HG7.o aE));rw[kW] at hrows;exact d2o.yes (HF6.o.next hbl HG7.o).grown HS7.o HE.o hrows
end
end Go.Proofs.YtohlomdapelgeaaGreatDoor
