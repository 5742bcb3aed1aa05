/- Texts MQ X1 MH MC0 MK0 QN MA MD MF. -/
import Derived.Test.YtohlomdapelgeaaGreatDoorCA
import Derived.Test.YtohlomdapelgeaaGreatDoorCC
import Derived.RangeFuncNested
import Derived.RangeFuncBound
import Derived.RangeFuncCalls
import Derived.RangeFuncLeaves
import Derived.Shelf.Abstract
import Derived.Shelf.RegionOpen
import Derived.OwnWalkIn
import Derived.TacticsInMore
import Derived.LoopNIn
import Derived.LoopIn
import Derived.RangeFuncBox
import Derived.Test.YtohlomdapelgeaaGreatDoorCB
import Derived.Maps.AppendAt
import Derived.Deep.CutBlock
namespace Go.Proofs.YtohlomdapelgeaaGreatDoor
open _root_.Go.Proofs.Tryz
open Go.RowKit Go.Shelf
open Go.RowKit
open _root_.Go.Addr renaming add->dY
open _root_.And renaming intro->bT
open _root_.Array renaming getElem?_eq_some_iff->aC,replicate_succ->eX,replicate_zero->eU
open _root_.Go.RowKit.Below renaming refl->bS
open IntWalk renaming i64_in->gW
open _root_.Go.Lib renaming cell_of_heap->aG,hid->aB
open _root_.List renaming append_toArray->fD,cons_append->bE,drop_eq_getElem_cons->aZ,drop_length->dO,ext_getElem->kX,getElem?_eq_getElem->aP,getElem_mem->dS,length_cons->aX,length_nil->bL,map_cons->kP,map_nil->qZ,nil_append->cB,push_toArray->gH,range->iU,size_toArray->gG
open _root_.Nat renaming le_refl->aH,le_trans->jH,lt_of_lt_of_le->gK,zero_add->gD,zero_le->dL
open _root_.Go.Oper renaming semAt_some->nC
open _root_.Option renaming bind_eq_some_iff->dG,bind_some->bU,map_eq_some_iff->aT,map_some->lX
open _root_.Go.World renaming alloc->aY,block_lt_of_cell?->bB,cell?_of_block->jV,setRow_alloc_new->lD,size_alloc->aR
set_option maxRecDepth 100000
set_option maxHeartbeats 16000000
section
attribute [local go_sem] nC
theorem KeepsOthers.of_bl{W W':World}(h:Bl W W'):KeepsOthers W W':=
 ⟨h.size,fun k o hk _=>by rw[h.block k (aC.1 hk).1];exact hk⟩
def upto{α:Type}(f:Nat->α)(k:Nat):List α:=(iU k).map f
theorem wH{α:Type}(f:Nat->α)(k:Nat):upto f (k+1)=upto f k++[f k]:=by simp[upto,List.range_succ]
theorem zN{α:Type}(f:Nat->α)(k:Nat):(upto f k).length=k:=by simp[upto]
def Ints(n₀:Nat)(W:World)(sv:Value)(zs:List Int):Prop:=
 (sv= .slice none 0 0/\zs=[])\/∃b off cap,sv= .slice (some ⟨b,off,none⟩) zs.length cap/\b<n₀/\∀j,j<zs.length->W.cell? ⟨b,off+j,none⟩=some (.int .i64 (zs[j]?.getD 0))
theorem Ints.below{n₀:Nat}{A B:World}(h:Below n₀ A B){sv:Value}{zs:List Int}:Ints n₀ A sv zs->Ints n₀ B sv zs
 | .inl e=> .inl e
 | .inr ⟨b,off,cap,e,hb,hc⟩=> .inr ⟨b,off,cap,e,hb,fun j hj=>(h.cell (p:=⟨b,off+j,none⟩) hb).trans (hc j hj)⟩
end
section
attribute [local go_sem] nC
def KpX(n₀ x:Nat)(A B:World):Prop:=∀k,k<n₀->k≠x->B.heap[k]?=A.heap[k]?
theorem KpX.refl(n₀ x:Nat)(A:World):KpX n₀ x A A:=fun _ _ _=>rfl
theorem KpX.trans{n₀ x:Nat}{A B C:World}(h:KpX n₀ x A B)(k:KpX n₀ x B C):KpX n₀ x A C:=fun i hi hx=>(k i hi hx).trans (h i hi hx)
theorem KpX.cell{n₀ x:Nat}{A B:World}(h:KpX n₀ x A B){b o:Nat}(hb:b<n₀)(hx:b≠x):B.cell? ⟨b,o,none⟩=A.cell? ⟨b,o,none⟩:=jV (h b hb hx)
theorem KpX.grown{n₀ x:Nat}{A B:World}(h:A.grownBy B (some x))(hn:n₀<=A.heap.size):KpX n₀ x A B:=fun k hk hx=>h.5 k aE (fun e=>hx (by injection e))
theorem c9s{n₀ x:Nat}{w:World}(hn:n₀<=w.heap.size)(W:World)(l:Nat)(o o':Obj)(hl:w.heap.size<=l)(h:W.heap[l]?=some o)(_:o.isCells=false)(_:o.isWalk=false):KpX n₀ x W (W.putObj l o'):=
 fun k hk _=>(grownBy_putObj' W l o').5 k (by have:=(aC.1 h).1;omega) (fun e=>by injection e;omega)
theorem b4d(xs:List (List UInt8)):upto (fun j=>xs[j]?.getD []) xs.length=xs:=by
 apply kX
 ·simp[upto]
 ·intro i h1 h2;simp[upto,h2]
theorem b1b(zs:List (List UInt8)){k:Nat}(hk:k<=zs.length):upto (fun j=>zs[j]?.getD []) k=zs.take k:=by
 apply kX
 ·simp[upto,hk]
 ·intro i h1 h2;have:i<zs.length:=(by simp[upto] at h1;omega);simp[upto,this]
set_option maxRecDepth 100000 in
theorem a7h(F:Fence)(n:Nat)(h7:F.fn 198)(hro:F.round=none)(hn:1<=n)(l Bs n₀ x b off len cap:Nat)(zs:List (List UInt8))(hreach:len<=1000000)(hbb:0<len->b<n₀/\b≠x)(J Jx:List (List UInt8)->World->Prop)
  (hY:∀pre x' W,J pre W->pre.length<len->YieldAt F (n-1) prog l #[S x'] W fun e W'=>
   (e= .returned (.bool true)/\J (pre++[x']) W'/\KpX n₀ x W W')\/(e= .returned (.bool false)/\Jx (pre++[x']) W'))
  (W:World) (hBs:W.cell? ⟨Bs,0,none⟩=some (.slice (some ⟨b,off,none⟩) len cap)) (hc:∀j,j<len->W.cell? ⟨b,off+j,none⟩=some (S (zs[j]?.getD []))) (h0:J [] W):
  CallsIn F n prog 198 #[.func (.yield l) #[] #[],.pointer (some ⟨Bs,0,none⟩)] W fun e W'=>(∃v,e= .returned v)/\
   ((∃ys,ys=upto (fun j=>zs[j]?.getD []) len/\J ys W')\/(∃pre,(∃k,k<=len/\pre=upto (fun j=>zs[j]?.getD []) k)/\Jx pre W')):=by
 refine callsIn_of_wp func198 rfl h7 ?_ hro;simp only[ntmps198,gG,aX,bL,Nat.reduceAdd,Nat.reduceSub,eX,eU,gH,fD,cB,bE]
 gi_wp2
 gi_loopw [7] (fun i wr=>∃k:Nat,k<=len/\i= .int .i64 k/\J (upto (fun j=>zs[j]?.getD []) k) wr/\KpX n₀ x W wr)
  (fun i _=>len-(intOf i).toNat)
 case atStart=>exact⟨0,dL _,rfl,h0,KpX.refl _ _ _⟩
 case round=>
  obtain⟨k,hk,rfl,hJs,hnx⟩:=hrel;have hcx:k<len->wr.cell? ⟨b,off+k,none⟩=some (S (zs[k]?.getD [])):=fun h=>(hnx.cell (hbb aE).1 (hbb aE).2).trans (hc k h);have HN:=aB hnx;clear hnx;by_cases hlt:k<len
  ·obtain⟨fn,tmps,assign,body,hy,hR⟩:=hY _ (zs[k]?.getD []) wr hJs (by rw[zN];exact hlt);have hcx':=hcx hlt;generalize hz:zs[k]?.getD []=z at *;have HZ:=aB hz;clear hz hcx
   gi_wp2
   refine hR.mono ?_;rintro e W3 (⟨rfl,hJ3,hk3⟩|⟨rfl,hJx3⟩)
   ·have HK3:=aB hk3;clear hk3
    gi_wp2
    go_roundw
    case rel=>exact⟨k+1,by omega,by simp,by rw[wH,HZ.o];exact hJ3,HN.o.trans HK3.o⟩
    case measure=>simp[intOf];omega
   ·gi_wp2
    refine bodyPost_ret (results_none rfl _ _ _) rfl ?_;exact⟨⟨_,rfl⟩,.inr ⟨_,⟨k+1,by omega,by rw[wH,HZ.o]⟩,hJx3⟩⟩
  ·obtain rfl:k=len:=by omega
   gi_wp2
   go_end0;exact⟨⟨_,rfl⟩,.inl ⟨_,rfl,hJs⟩⟩
set_option maxRecDepth 100000 in
theorem zL(a:Option Addr)(cap:Nat)(F:Fence)(n:Nat)(h7:F.fn 198)(hro:F.round=none)(l Bs:Nat)(J:List (List UInt8)->World->Prop)(W:World)(hBs:W.cell? ⟨Bs,0,none⟩=some (.slice a 0 cap))(h0:J [] W):
  CallsIn F n prog 198 #[.func (.yield l) #[] #[],.pointer (some ⟨Bs,0,none⟩)] W fun e W'=>(∃v,e= .returned v)/\J [] W':=by
 refine callsIn_of_wp func198 rfl h7 ?_ hro;simp only[ntmps198,gG,aX,bL,Nat.reduceAdd,Nat.reduceSub,eX,eU,gH,fD,cB,bE]
 gi_wp2
 gi_loopw [7] (fun i wr=>i= .int .i64 0/\J [] wr) (fun _ _=>0)
 case atStart=>exact⟨rfl,h0⟩
 case round=>
  obtain⟨rfl,hJs⟩:=hrel
  gi_wp2
  go_end0;exact⟨⟨_,rfl⟩,hJs⟩
theorem b0z(F:Fence)(n:Nat)(h5:F.fn 135)(hro:F.round=none)(a:Option Addr)(len cap:Nat)(w:World):
  CallsIn F n prog 135 #[.slice a len cap] w fun e w'=>e= .returned (.func (.func 198) #[] #[.pointer (some ⟨w.heap.size,0,none⟩)])/\w'=w.alloc (.cells #[.slice a len cap] 27):=by
 refine callsIn_of_wp func135 rfl h5 ?_ hro;simp only[ntmps135,gG,aX,bL,Nat.reduceAdd,Nat.reduceSub,eX,eU,gH,fD,cB,bE]
 gi_wp2
 go_ret;exact⟨rfl,rfl⟩
def a8x(n₀ x:Nat)(W:World)(sv:Value)(xs:List (List UInt8)):Prop:=
 ∃a cap,sv= .slice a xs.length cap/\∀j,j<xs.length->∃b off,a=some ⟨b,off,none⟩/\b<n₀/\b≠x/\W.cell? ⟨b,off+j,none⟩=some (S (xs[j]?.getD []))
theorem a8x.keep{n₀ x:Nat}{A B:World}(h:KpX n₀ x A B){sv:Value}{xs:List (List UInt8)}(k:a8x n₀ x A sv xs):a8x n₀ x B sv xs:=by
 obtain⟨a,cap,e,hc⟩:=k;refine⟨a,cap,e,fun j hj=>?_⟩;obtain⟨b,off,e2,hb,hx,c⟩:=hc j hj;exact⟨b,off,e2,hb,hx,(h.cell hb hx).trans c⟩
theorem a2x(F:Fence)(n:Nat)(h7:F.fn 198)(hro:F.round=none)(hn:1<=n)(Bs n₀ x:Nat)(sv:Value)(zs:List (List UInt8))(hreach:zs.length<=1000000)(w:World)(hBs:Bs<w.heap.size)(hn₀:n₀<=w.heap.size)
  (hc:w.cell? ⟨Bs,0,none⟩=some sv) (hI:a8x n₀ x w sv zs):
  SeqStopsK F n prog 198 #[.pointer (some ⟨Bs,0,none⟩)] (fun x:List UInt8=> #[S x]) (KpX n₀ x) (fun ys=>ys=zs) (fun pre=>pre<+:zs) zs.length w:=fun l J Jx W hW _ _ hY h0=>by
 have hc':=(hW.cell (p:=⟨Bs,0,none⟩) hBs).trans hc;have hk:KpX n₀ x w W:=fun k hk _=>hW.block k aE;obtain⟨a,cap,rfl,hcs⟩:=hI.keep hk;by_cases hz:zs=[]
 ·subst hz;exact(zL a cap F n h7 hro l Bs J W hc' h0).mono fun e W' ⟨he,hj⟩=>⟨he,.inl ⟨_,rfl,hj⟩⟩
 ·have hpos:0<zs.length:=by cases zs with |nil=>exact absurd rfl hz|cons _ _=>simp
  obtain⟨b,off,rfl,hb,hx,-⟩:=hcs 0 hpos;have hcs':∀j,j<zs.length->W.cell? ⟨b,off+j,none⟩=some (S (zs[j]?.getD [])):=fun j hj=>by
   obtain⟨b',off',e,_,_,c⟩:=hcs j hj;injection e with e;injection e with e1 e2 _;subst e1;subst e2;exact c
  refine(a7h F n h7 hro hn l Bs n₀ x b off zs.length cap zs hreach (fun _=>⟨hb,hx⟩) J Jx hY W hc' hcs' h0).mono ?_;rintro e W' ⟨he,⟨ys,rfl,hj⟩|⟨pre,⟨k,hk,rfl⟩,hj⟩⟩
  ·exact⟨he,.inl ⟨_,b4d zs,hj⟩⟩
  ·exact⟨he,.inr ⟨_,by rw[b1b zs hk];exact List.take_prefix _ _,hj⟩⟩
end
section
attribute [local go_sem] nC
theorem a0m{w A B:World}{x D:Nat}(h:w.grownBy A (some x))(k:A.grownBy B (some D))(hD:w.heap.size<=D):w.grownBy B (some x):=
 ⟨k.1.trans h.1,k.2.trans h.2,k.3.trans h.3,jH h.4 k.4,fun i hi hr=>(k.5 i (gK hi h.4) (fun e=>by injection e;omega)).trans (h.5 i hi hr)⟩
def TkI(w:World)(bs g cap:Nat)(ts:List Tok)(k:Nat)(pre:List (List UInt8))(W:World):Prop:=
 ∃k',bH ts k pre=some k'/\iV W bs g cap ts k'/\Boxed W w.heap.size 66 (.pointer (some ⟨bs,0,none⟩))/\Boxed W (w.heap.size+1) 4 (.bool false)/\Boxed W (w.heap.size+2) 3 (.int .i64 (k:Int))/\w.grownBy W (some bs)
def TkX(w:World)(bs g cap:Nat)(ts:List Tok)(k:Nat)(c:Code)(pre:List (List UInt8))(W:World):Prop:=
 c= .ret/\bH ts k pre=none/\iV W bs g cap ts k/\Boxed W (w.heap.size+1) 4 (.bool false)/\w.grownBy W (some bs)
def a4f(W:World)(bs g cap:Nat)(ts:List Tok)(k:Nat)(xs:List (List UInt8))(e:Ending)(w':World):Prop:=
 W.grownBy w' (some bs)/\((∃k',bH ts k xs=some k'/\e= .returned (.bool true)/\iV w' bs g cap ts k')\/(bH ts k xs=none/\e= .returned (.bool false)/\iV w' bs g cap ts k))
theorem iV.grownBy{W W':World}{bs g cap k:Nat}{ts:List Tok}(h:iV W bs g cap ts k){row:Option Nat}(hg:W.grownBy W' row)(h1:some bs≠row)(h2:some g≠row):iV W' bs g cap ts k:=
 h.keep (hg.block bs (aC.1 h.own).1 h1) (hg.block g (bB _ _ (h.row k h.lt).1) h2)
theorem c2u(w:World)(B bs g cap:Nat)(ts:List Tok)(k:Nat)(hB:w.heap.size+2<B)(hbs:bs<w.heap.size)(hg:g<w.heap.size):OwnFrom B (TkI w bs g cap ts k):=by
 rintro s W W' row ⟨k',h1,h2,h3,h4,h5,h6⟩ hgr hr;have hne:∀i,i<B->some i≠row:=fun i hi e=>(by have:=(hr i e.symm).1;omega);refine⟨k',h1,h2.grownBy hgr (hne _ aE) (hne _ aE),h3.kept hgr (hne _ aE),h4.kept hgr (hne _ aE),h5.kept hgr (hne _ aE),?_⟩;cases row with
 |none=>exact⟨hgr.1.trans h6.1,hgr.2.trans h6.2,hgr.3.trans h6.3,jH h6.4 hgr.4,fun i hi hx=>(hgr.5 i (gK hi h6.4) aa).trans (h6.5 i hi hx)⟩
 |some r=>exact a0m h6 hgr (by have:=(hr r rfl).1;omega)
theorem c2t(w:World)(B bs g cap:Nat)(ts:List Tok)(k:Nat)(c:Code)(hB:w.heap.size+2<B)(hbs:bs<w.heap.size)(hg:g<w.heap.size):OwnFrom B (TkX w bs g cap ts k c):=by
 rintro s W W' row ⟨h0,h1,h2,h4,h6⟩ hgr hr;have hne:∀i,i<B->some i≠row:=fun i hi e=>(by have:=(hr i e.symm).1;omega);refine⟨h0,h1,h2.grownBy hgr (hne _ aE) (hne _ aE),h4.kept hgr (hne _ aE),?_⟩;cases row with
 |none=>exact⟨hgr.1.trans h6.1,hgr.2.trans h6.2,hgr.3.trans h6.3,jH h6.4 hgr.4,fun i hi hx=>(hgr.5 i (gK hi h6.4) aa).trans (h6.5 i hi hx)⟩
 |some r=>exact a0m h6 hgr (by have:=(hr r rfl).1;omega)
theorem c5t{w W1 W3:World}{B bs g cap k k2:Nat}{ts:List Tok}{pre:List (List UInt8)}{a:Act}(hg3:W1.grownBy W3 (some bs))(hB:bs<B)(hl:w.heap.size<=W1.heap.size)(h1:bH ts k pre=some k2)(h2:iV W3 bs g cap ts k2)
  (h3:Boxed W3 w.heap.size 66 (.pointer (some ⟨bs,0,none⟩))) (h4:Boxed W3 (w.heap.size+1) 4 (.bool false)) (h5:Boxed W3 (w.heap.size+2) 3 (.int .i64 (k:Int))) (hg:w.grownBy W1 (some bs)):
  ownPostG B (KpX w.heap.size bs) (TkI w bs g cap ts k) (TkX w bs g cap ts k) pre W1 .normal a W3:=
 ⟨KeepsFrom.of_grownBy hg3 (fun j e=>by injection e with e;omega),KpX.grown hg3 hl,k2,h1,h2,h3,h4,h5,dA hg hg3⟩
theorem b4n{w W1 W2:World}{B bs g cap k k':Nat}{ts:List Tok}{pre:List (List UInt8)}{a:Act}(o:Obj)(hg2:W1.grownBy W2 (some bs))(hbs:bs<w.heap.size)(hB:w.heap.size+2<B)(hk:k<ts.length)(hg':g<w.heap.size)(h1:bH ts k pre=none)(h2:iV W2 bs g cap ts k')
  (h4:Boxed W2 (w.heap.size+1) 4 (.bool false)) (hg:w.grownBy W1 (some bs)):
  ownPostG B (KpX w.heap.size bs) (TkI w bs g cap ts k) (TkX w bs g cap ts k) pre W1 .ret a (((W2.setCell ⟨bs,1,none⟩ (.int .i64 (k:Int))).setCell ⟨w.heap.size+1,0,none⟩ (.bool false)).alloc o):=by
 refine⟨(KeepsFrom.of_grownBy hg2 (fun j e=>by injection e with e;omega)).trans ((KeepsFrom.of_grownBy (qA _ _ _) (fun j e=>by injection e with e;omega)).trans ((KeepsFrom.of_grownBy (qA _ _ _) (fun j e=>by injection e with e;omega)).trans (KeepsFrom.of_grownBy (World.grownBy_alloc _ _ none) (fun j e=>by cases e)))),rfl,h1,?_,?_,?_⟩
 ·have s1:=h2.turn k hk;exact(s1.keep (aM _ ⟨w.heap.size+1,0,none⟩ _ _ ak) (aM _ ⟨w.heap.size+1,0,none⟩ _ _ ak)).bl ((Bl.refl _).alloc _)
 ·refine Boxed.alloc ?_ o;have:Boxed (W2.setCell ⟨bs,1,none⟩ (.int .i64 (k:Int))) (w.heap.size+1) 4 (.bool false):=h4.kept (qA _ _ _) ak;exact this.set _
 ·exact vU (dP (dA (dA hg hg2) (qA _ _ _)) 0 aE _) o
theorem a1t{w W:World}{D bs g cap k:Nat}{ts:List Tok}{xs:List (List UInt8)}{a:Act}{v:Bool}{k2:Nat}(hD:w.heap.size+4<=D)(hbs:bs<w.heap.size)(hgl:g<w.heap.size)(ht:a.tmps[4]?=some (.pointer (some ⟨w.heap.size+1,0,none⟩)))(hd:a.defers=[{target:= .collected D,args:= #[]}])
  (hK:W.heap[D]?=some (.deferred (some []))) (h1:Boxed W (w.heap.size+1) 4 (.bool v)) (hs:iV W bs g cap ts k2) (hg:w.grownBy W (some bs)) (hv:(v=true/\bH ts k xs=some k2)\/(v=false/\bH ts k xs=none/\k2=k)):
  bodyPostM Fence.wide 5 prog Tryz.f91 (a4f w bs g cap ts k xs) .ret a W:=by
 obtain⟨tm,df⟩:=a;simp only at ht hd;subst hd;refine⟨by simp,.inl ⟨_,_,rfl,run_takeDeferred hK,?_⟩⟩;have hgp:=grownBy_putObj' W D (.deferred none);have c:=(h1.kept hgp ak).cell;refine⟨.bool v,by simp[results,results91,go_sem,ht,c],a0m hg hgp aE,?_⟩;have hs':=hs.grownBy hgp ak ak;rcases hv with⟨rfl,h⟩|⟨rfl,h,rfl⟩
 ·exact .inl ⟨_,h,rfl,hs'⟩
 ·exact .inr ⟨h,rfl,hs'⟩
set_option maxRecDepth 100000 in
theorem b4q{W:World}{bs g cap k:Nat}{ts:List Tok}(h:iV W bs g cap ts k)(sv:Value)(xs:List (List UInt8))(hxs:a8x W.heap.size bs W sv xs)(hm:xs.length<=1000000):
  eg 91 #[.pointer (some ⟨bs,0,none⟩),sv] W (a4f W bs g cap ts k xs):=by
 refine(callsIn_wide (n:=5)).1 ?_;have hbl:bs<W.heap.size:=(aC.1 h.own).1;have hgl:g<W.heap.size:=bB _ _ (h.row k h.lt).1;have H:=aB h;have HX:=aB hxs;obtain⟨a,cx,rfl⟩:∃a cx,sv= .slice a xs.length cx:=by
  obtain⟨a,cx,rfl,_⟩:=hxs;exact⟨_,_,rfl⟩
 clear h hxs;refine callsIn_of_wp_marks func91 rfl trivial ?_ rfl;simp only[ntmps91,gG,aX,bL,Nat.reduceAdd,Nat.reduceSub,eX,eU,gH,fD,cB,bE];have hB0:Bl W ((W.alloc (.cells #[.pointer (some ⟨bs,0,none⟩)] 66)).alloc (.cells #[.bool false] 4)):=((Bl.refl W).alloc _).alloc _
 gi_wp2_with fail
 refine⟨trivial,?_⟩;refine(callsIn_wide.2 (sJ (H.o.bl hB0))).mono ?_;rintro e w' ⟨rfl,rfl⟩
 gi_wp2_with fail
 refine⟨trivial,?_⟩;refine(callsIn_wide.2 (a9h (H.o.bl hB0))).mono ?_;rintro e w' ⟨rfl,rfl⟩
 gi_wp2_with fail
 refine⟨trivial,?_⟩;refine(b0z Fence.wide 4 trivial rfl _ _ _ _).mono ?_;rintro e w' ⟨rfl,rfl⟩
 gi_wp2_with fail
 have b0:=Boxed.new W 66 (.pointer (some ⟨bs,0,none⟩));have b1:=Boxed.new (W.alloc (.cells #[.pointer (some ⟨bs,0,none⟩)] 66)) 4 (.bool false);have b2:=Boxed.new ((W.alloc (.cells #[.pointer (some ⟨bs,0,none⟩)] 66)).alloc (.cells #[.bool false] 4)) 3 (.int .i64 (k:Int));have b3:=Boxed.new (((W.alloc (.cells #[.pointer (some ⟨bs,0,none⟩)] 66)).alloc (.cells #[.bool false] 4)).alloc (.cells #[.int .i64 (k:Int)] 3)) 27 (.slice a xs.length cx);simp only[aR] at b1 b2 b3;have hB4:Bl W ((((W.alloc (.cells #[.pointer (some ⟨bs,0,none⟩)] 66)).alloc (.cells #[.bool false] 4)).alloc (.cells #[.int .i64 (k:Int)] 3)).alloc (.cells #[.slice a xs.length cx] 27)):=(hB0.alloc _).alloc _;have hX4:=HX.o.keep (fun i hi _=>hB4.block i hi);have hI0:TkI W bs g cap ts k [] ((((W.alloc (.cells #[.pointer (some ⟨bs,0,none⟩)] 66)).alloc (.cells #[.bool false] 4)).alloc (.cells #[.int .i64 (k:Int)] 3)).alloc (.cells #[.slice a xs.length cx] 27)):=
  ⟨k,rfl,H.o.bl hB4,((b0.alloc _).alloc _).alloc _,(b1.alloc _).alloc _,b2.alloc _,gI hB4 _⟩
 have hsz:((((W.alloc (.cells #[.pointer (some ⟨bs,0,none⟩)] 66)).alloc (.cells #[.bool false] 4)).alloc (.cells #[.int .i64 (k:Int)] 3)).alloc (.cells #[.slice a xs.length cx] 27)).heap.size=W.heap.size+4:=aa;clear b0 b1 b2 hB0 hB4;generalize (((W.alloc (.cells #[.pointer (some ⟨bs,0,none⟩)] 66)).alloc (.cells #[.bool false] 4)).alloc (.cells #[.int .i64 (k:Int)] 3)).alloc (.cells #[.slice a xs.length cx] 27)=W4 at *;have HSZ:=aB hsz;refine wpIn_rangeFunc_ownG rfl aE (gf:=198) (lb:= #[.pointer (some ⟨W.heap.size+1+1+1,0,none⟩)]) rfl trivial (enters_of func198 af rfl)
  (a2x Fence.wide (5-1) trivial rfl aE (W.heap.size+1+1+1) W.heap.size bs _ xs hm W4 aE aE b3.cell hX4) KpX.trans (c9s aE) (bS _ _) (fun _=>rfl)
  (TkI W bs g cap ts k) (TkX W bs g cap ts k) (c2u W _ bs g cap ts k aE hbl hgl) (fun c=>c2t W _ bs g cap ts k c aE hbl hgl) hI0
  (fun x=>{tmps:= #[.pointer (some ⟨bs,0,none⟩),.slice a xs.length cx,.pointer (some ⟨W.heap.size,0,none⟩),undef,.pointer (some ⟨W.heap.size+1,0,none⟩),.pointer (some ⟨W.heap.size+1+1,0,none⟩),S x,undef,.pointer (some ⟨bs,0,none⟩),.bool false,.pointer (some ⟨bs,0,none⟩),.pointer (some ⟨bs,0,none⟩),.pointer (some ⟨bs,0,none⟩),.int .i64 (k:Int),.slice a xs.length cx,.func (.func 198) #[] #[.pointer (some ⟨W.heap.size+1+1+1,0,none⟩)],S x,undef,undef,undef,undef,undef,undef,undef,undef,undef,undef,undef,undef,undef,undef,undef,undef,undef,undef,undef,undef,undef],defers:=[]}) ?assign ?body ?done ?stop
 case assign=>
  intro l x W1 K hK
  gi_wp2
  exact hK
 case body=>
  rintro l pre x W1 ⟨k',ht,hs,c0,c1,c2,hg⟩ _;have HT:=aB ht;have HS:=aB hs;obtain⟨y,hy⟩:∃y,ts[k']?=some y:=⟨_,aP hs.lt⟩
  have HY:=aB hy;have p0:=c0.cell;have C1:=aB c1;have C2:=aB c2;have HG:=aB hg;have C0:=aB c0;have hl1:=hg.4;clear ht hs hy c1 c2 hg c0
  gi_wp2_with fail
  refine⟨trivial,?_⟩;refine(CallsIn.inRound l (callsIn_wide.2 (yY HS.o HY.o))).mono ?_;rintro e W2 ⟨rfl,hg2,hs2⟩;have c0':=C0.o.kept hg2 ak;have c1':=aB (C1.o.kept hg2 ak);have c2':=C2.o.kept hg2 ak;have p0':=c0'.cell;have p2':=c2'.cell;have HS2:=aB hs2;have HG2:=aB hg2;have HC0:=aB c0';have HC2:=aB c2';obtain⟨s0,s1,z0,z1,hlt⟩:=aU hs2.own;have c1b:=c1'.o.cell;have c1f:=c1'.o.frozen;have hl2:=hg2.4;have hst:W.heap.size+2<W2.heap.size:=HC2.o.lt;clear c0' c2' hs2 hg2;obtain⟨yk,yp,yt,ya,yb,yc⟩:=y;have key:Hid (isB ⟨yk,yp,yt,(ya,yb,yc)⟩ x=true/\bH ts k (pre++[x])=some (fT ts.length k')\/isB ⟨yk,yp,yt,(ya,yb,yc)⟩ x=false/\bH ts k (pre++[x])=none):=by
   show _\/_;rw[uC,HT.o,bU,nK HY.o];cases isB ⟨yk,yp,yt,(ya,yb,yc)⟩ x<;>simp[bH]
  have hG3:=aB (dA HG2.o (vU (gI (Bl.refl W2) (some bs)) (.cells #[.int .i64 yk,.int .i64 (yp:Int),S yt,.int .i64 ya,.int .i64 yb,S yc] 72)));have HKL:=aB H.o.lt;have q0:W.heap.size<W2.heap.size:=aE;have q1:W.heap.size+1<W2.heap.size:=aE;cases he:(yt==x)
  ·have hne:(yt != x)=true:=by simp[bne,he]
   have HK:Hid (bH ts k (pre++[x])=none):=by
    rcases key.o with⟨h,_⟩|⟨_,h⟩
    ·simp[isB,he] at h
    ·exact h
   gi_wp2
   exact b4n _ HG2.o hbl (by have:=HSZ.o;omega) HKL.o hgl HK.o HS2.o c1'.o HG.o
  ·have hne:(yt != x)=false:=by simp[bne,he]
   by_cases hk1:yk=1
   ·subst hk1;have HK:Hid (bH ts k (pre++[x])=some (fT ts.length k')):=by
     rcases key.o with⟨_,h⟩|⟨h,_⟩
     ·exact h
     ·simp[isB,he] at h
    gi_wp2
    exact c5t hG3.o (by have:=HSZ.o;omega) hl1 HK.o (HS2.o.bl ((Bl.refl W2).alloc _)) (HC0.o.alloc _) (c1'.o.alloc _) (HC2.o.alloc _) HG.o
   by_cases hk3:yk=3
   ·subst hk3;have HK:Hid (bH ts k (pre++[x])=some (fT ts.length k')):=by
     rcases key.o with⟨_,h⟩|⟨h,_⟩
     ·exact h
     ·simp[isB,he] at h
    gi_wp2
    exact c5t hG3.o (by have:=HSZ.o;omega) hl1 HK.o (HS2.o.bl ((Bl.refl W2).alloc _)) (HC0.o.alloc _) (c1'.o.alloc _) (HC2.o.alloc _) HG.o
   have b1:(yk==1)=false:=(by simpa using hk1);have b3:(yk==3)=false:=(by simpa using hk3);have n1:(yk != 1)=true:=(by simpa using hk1);have n3:(yk != 3)=true:=(by simpa using hk3);have HK:Hid (bH ts k (pre++[x])=none):=by
    rcases key.o with⟨h,_⟩|⟨_,h⟩
    ·simp[isB,b1,b3] at h
    ·exact h
   clear hk1 hk3
   gi_wp2
   exact b4n _ HG2.o hbl (by have:=HSZ.o;omega) HKL.o hgl HK.o HS2.o c1'.o HG.o
 case done=>
  rintro D ys W1 hD rfl ⟨k',ht,hs,c0,c1,c2,hg⟩ hK;have p1:=c1.cell;have f1:=c1.frozen;have hs':iV (W1.setCell ⟨W.heap.size+1,0,none⟩ (.bool true)) bs g cap ts k':=hs.keep (aM _ ⟨W.heap.size+1,0,none⟩ _ _ ak) (aM _ ⟨W.heap.size+1,0,none⟩ _ _ ak);have hD':(W1.setCell ⟨W.heap.size+1,0,none⟩ (.bool true)).heap[D]?=some (.deferred (some [])):=(aM _ ⟨W.heap.size+1,0,none⟩ _ _ ak).trans hK;have hg':=dP hg (b:=W.heap.size+1) 0 aE (.bool true);have HC1:=aB (c1.set (.bool true));have HH:=aB (bT hs' (bT hD' (bT hg' ht)));clear hs' hD' hg' ht hs c0 c1 c2 hg hK
  gi_wp2
  exact a1t aE hbl hgl rfl rfl HH.o.2.1 HC1.o HH.o.1 HH.o.2.2.1 (.inl ⟨rfl,HH.o.2.2.2⟩)
 case stop=>
  rintro D c pre W1 hD hpre ⟨rfl,ht,hs,c1,hg⟩ hK;have ht2:bH ts k xs=none:=by
   obtain⟨r,rfl⟩:=hpre;rw[uC,ht];rfl
  have HH:=aB (bT hs (bT hK (bT hg (bT ht2 c1))));clear ht hs c1 hg hK ht2
  gi_wp2
  exact a1t aE hbl hgl rfl rfl HH.o.2.1 HH.o.2.2.2.2 HH.o.1 HH.o.2.2.1 (.inr ⟨rfl,HH.o.2.2.2.1,rfl⟩)
end
section
theorem zI{l:List UInt8}{ts:List Tok}(h:jQ l=some ts):ts.length<=l.length:=(a1m (parse:=fP) l.length l.length l (aH _) ts h).2
def c4e(W:World)(l:List UInt8)(ts:List Tok)(e:Ending)(w':World):Prop:=
 ∃bs g cap,e= .returned (.tuple #[.pointer (some ⟨bs,0,none⟩),.int .i64 0])/\Bl W w'/\W.heap.size<=bs/\W.heap.size<=g/\iV w' bs g cap (ts++[eT l.length]) 0
theorem a4h(l:List UInt8)(hl:l.length<=4000)(ts:List Tok)(h:jQ l=some ts)(W:World)(hG:nD W):eg 18 #[S l] W (c4e W l ts):=by
 have hf:=zI h;have H:=aB h;clear h;go_enter func18,ntmps18;go_wp2_with fail
 (with_reducible refine(c0z l hl ts H.o W hG).mono ?_)
 rintro e w1 ⟨g,cap,rfl,hb,hg,ho⟩;have HR:Hid (Row w1 g (ts++[eT l.length])):=c2b ho;have hgl:g<w1.heap.size:=(ho.lt g rfl).2;clear ho;go_wp2;go_ret2;refine⟨_,g,cap,rfl,hb.alloc _,hb.size,hg,⟨?_,HR.o.bl ((Bl.refl w1).alloc _),by simp,by simp;omega,by omega⟩⟩;rw[aN];simp
theorem a7d(l:List UInt8)(hl:l.length<=9223372036854775807)(h:bY l≠0)(W:World)(hG:nD W):eg 18 #[S l] W fun e w'=>e= .returned (.tuple #[.pointer none,.int .i64 (bY l)])/\Bl W w':=by
 have hne:(bY l != 0)=true:=bb;go_enter func18,ntmps18;go_wp2_with fail
 (with_reducible refine(a3d l hl W hG).mono ?_)
 rintro e w1 ⟨v,rfl,hb,hv,-⟩;obtain rfl:=hv h;clear hv;generalize hx:bY l=x at *;have HX:=aB hx;clear hx;go_wp2;go_ret2;exact⟨by rw[HX.o];rfl,hb⟩
end
section
def vM(o:Int):Int:=if 1<=o/\o<=5\/o=15\/o=20 then 2 else if o=13\/o=14\/o=16 then 1 else 0
def fU(o:Int):Int:=if 1<=o/\o<=5\/o=15\/o=19\/o=20 then 2 else if 7<=o/\o<=14\/16<=o/\o<=18 then 1 else 0
theorem twenty{o:Int}(h:1<=o/\o<=20):o=1\/o=2\/o=3\/o=4\/o=5\/o=6\/o=7\/o=8\/o=9\/o=10\/o=11\/o=12\/o=13\/o=14\/o=15\/o=16\/o=17\/o=18\/o=19\/o=20:=by omega
def b3j(W:World)(sv:Value)(l:List Int):Prop:=∃a cap,sv= .slice a l.length cap/\∀j,(h:j<l.length)->∃b off,a=some ⟨b,off,none⟩/\W.cell? ⟨b,off+j,none⟩=some (.int .i64 l[j])
theorem b3j.bl{W W':World}(hb:Bl W W'){sv:Value}{l:List Int}(h:b3j W sv l):b3j W' sv l:=by
 obtain⟨a,cap,e,hc⟩:=h;refine⟨a,cap,e,fun j hj=>?_⟩;obtain⟨b,off,e2,c⟩:=hc j hj;exact⟨b,off,e2,hb.cell c⟩
end
section
def b3s:Array Value:= #[S [],.int .i64 0,.int .i64 0,.int .i64 0,.string ⟨#[43]⟩,.int .i64 2,.int .i64 2,.int .i64 2,.string ⟨#[45]⟩,.int .i64 2,.int .i64 2,.int .i64 2,.string ⟨#[42]⟩,.int .i64 2,.int .i64 2,.int .i64 2,.string ⟨#[47]⟩,.int .i64 2,.int .i64 2,.int .i64 2,.string ⟨#[37]⟩,.int .i64 2,.int .i64 2,.int .i64 2,.string ⟨#[124,124]⟩,.int .i64 2,.int .i64 0,.int .i64 0,.string ⟨#[61]⟩,.int .i64 2,.int .i64 0,.int .i64 1,.string ⟨#[60,62]⟩,.int .i64 2,.int .i64 0,.int .i64 1,.string ⟨#[60]⟩,.int .i64 2,.int .i64 0,.int .i64 1,.string ⟨#[60,61]⟩,.int .i64 2,.int .i64 0,.int .i64 1,.string ⟨#[62]⟩,.int .i64 2,.int .i64 0,.int .i64 1,.string ⟨#[62,61]⟩,.int .i64 2,.int .i64 0,.int .i64 1,.string ⟨#[97,110,100]⟩,.int .i64 2,.int .i64 1,.int .i64 1,.string ⟨#[111,114]⟩,.int .i64 2,.int .i64 1,.int .i64 1,.string ⟨#[45]⟩,.int .i64 1,.int .i64 2,.int .i64 2,.string ⟨#[110,111,116]⟩,.int .i64 1,.int .i64 1,.int .i64 1,.string ⟨#[105,115,32,110,117,108,108]⟩,.int .i64 1,.int .i64 0,.int .i64 1,.string ⟨#[105,115,32,110,111,116,32,110,117,108,108]⟩,.int .i64 1,.int .i64 0,.int .i64 1,.string ⟨#[108,101,110,103,116,104]⟩,.int .i64 1,.int .i64 0,.int .i64 2,.string ⟨#[97,98,115]⟩,.int .i64 1,.int .i64 2,.int .i64 2]
def c6f:Array Value:= #[S [],.int .i64 0,.int .i64 0,.int .i64 0,S [],.int .i64 0,.int .i64 0,.int .i64 0,S [],.int .i64 0,.int .i64 0,.int .i64 0,S [],.int .i64 0,.int .i64 0,.int .i64 0,S [],.int .i64 0,.int .i64 0,.int .i64 0,S [],.int .i64 0,.int .i64 0,.int .i64 0,S [],.int .i64 0,.int .i64 0,.int .i64 0,S [],.int .i64 0,.int .i64 0,.int .i64 0,S [],.int .i64 0,.int .i64 0,.int .i64 0,S [],.int .i64 0,.int .i64 0,.int .i64 0,S [],.int .i64 0,.int .i64 0,.int .i64 0,S [],.int .i64 0,.int .i64 0,.int .i64 0,S [],.int .i64 0,.int .i64 0,.int .i64 0,S [],.int .i64 0,.int .i64 0,.int .i64 0,S [],.int .i64 0,.int .i64 0,.int .i64 0,S [],.int .i64 0,.int .i64 0,.int .i64 0,S [],.int .i64 0,.int .i64 0,.int .i64 0,S [],.int .i64 0,.int .i64 0,.int .i64 0,S [],.int .i64 0,.int .i64 0,.int .i64 0,S [],.int .i64 0,.int .i64 0,.int .i64 0,S [],.int .i64 0,.int .i64 0,.int .i64 0]
theorem a7y:(prog.info? 323).map (·.size)=some 84:=by kernel_rfl
theorem b4u(w:World):eg 303 #[] w fun e w'=>e= .returned (.agg b3s)/\w'=w.alloc (.cells b3s 323):=by
 have hst:=fun(w:World)=>run_storeAt_new (P:=prog) w 323 c6f b3s a7y rfl af;have hzv:∀w,(zeroValue 323).run prog w= .ok (.agg c6f) w:=fun _=>af;go_enter func303,ntmps303;go_wp2_with (first
  |(refine wpList_store_row rfl 323 (.tmp 0) (.tmp 52) rfl w.heap.size b3s rfl af 323 c6f (aN w _) a7y rfl af ?_))
 have hW:((w.alloc (.cells c6f 323)).setRow w.heap.size b3s)=w.alloc (.cells b3s 323):=lD w c6f b3s 323;refine bodyPost_ret (v:= .agg b3s) (results_cell_row (p:=0) (ty:=323) rfl _ _ w.heap.size 323 b3s (0,0) (.array 21 284) rfl ?_ af rfl a7y) rfl ⟨rfl,hW⟩;exact(congrArg (fun W:World=>W.heap[w.heap.size]?) hW).trans (aN w _)
theorem b4z(o:Int)(h:¬(1<=o/\o<=20))(w:World):eg 261 #[.int .i64 o] w fun e w'=>e= .returned (.tuple #[.agg #[S [],.int .i64 0,.int .i64 0,.int .i64 0],.bool false])/\Bl w w':=by
 have h1:o<=0\/(¬o<=0/\20<o):=aE;clear h;rcases h1 with h1|⟨h1,h2⟩
 all_goals
  go_enter func261,ntmps261;go_wp2;exact bodyPost_ret (v:= .tuple #[.agg #[S [],.int .i64 0,.int .i64 0,.int .i64 0],.bool false]) (by simp[results,results261,go_sem]) rfl ⟨rfl,(Bl.refl w).alloc _⟩
end
section
theorem b9b:∃cs:Array Value,Hid (cs=b3s)/\∀w,eg 303 #[] w fun e w'=>e= .returned (.agg cs)/\w'=w.alloc (.cells cs 323):=⟨b3s,rfl,b4u⟩
theorem b6c(o:Int)(h:1<=o/\o<=20)(w:World):Sem.run prog (Instr.index 323 (.agg b3s) (.int .i64 o)) w= .ok (.agg #[S (bI o),.int .i64 (fJ o:Int),.int .i64 (vM o),.int .i64 (fU o)]) w:=by
 rcases twenty h with rfl|rfl|rfl|rfl|rfl|rfl|rfl|rfl|rfl|rfl|rfl|rfl|rfl|rfl|rfl|rfl|rfl|rfl|rfl|rfl
 all_goals rfl
theorem uR(o:Int)(h:1<=o/\o<=20)(w:World):eg 261 #[.int .i64 o] w fun e w'=>e= .returned (.tuple #[.agg #[S (bI o),.int .i64 (fJ o:Int),.int .i64 (vM o),.int .i64 (fU o)],.bool true])/\Bl w w':=by
 obtain⟨cs,HC,hrows⟩:=b9b;have HR:=aB hrows;have hidx:∀w,Sem.run prog (Instr.index 323 (.agg cs) (.int .i64 o)) w= .ok (.agg #[S (bI o),.int .i64 (fJ o:Int),.int .i64 (vM o),.int .i64 (fU o)]) w:=by
  rw[HC.o];exact b6c o h
 clear hrows HC;have h1:¬o<=0:=aE;have h2:¬20<o:=aE;clear h;go_enter func261,ntmps261;go_wp2_with fail
 (with_reducible refine(HR.o _).mono ?_)
 rintro e w1 ⟨rfl,rfl⟩;go_wp2;refine bodyPost_ret (v:= .tuple #[.agg #[S (bI o),.int .i64 (fJ o:Int),.int .i64 (vM o),.int .i64 (fU o)],.bool true]) ?_ rfl ⟨rfl,((Bl.refl w).alloc _).alloc _⟩;simp[results,results261,go_sem]
end
section
theorem a1s{ts:List Tok}{k:Nat}{l:List Int}{i:Nat}(hi:i<l.length):fI ts k (l.drop i)=match bH ts k [bI l[i]] with
  |some k'=>some (l[i],k')
  |none=>fI ts k (l.drop (i+1)):=by
 rw[aZ hi];rfl
def tH(w:World)(b:Nat):Nat:=match w.cell? ⟨b,1,none⟩ with
 |some (.int _ i)=>i.toNat
 |_=>0
theorem yN{w:World}{b:Nat}{v:Value}{k:Nat}{t:TypeId}(h:w.heap[b]?=some (.cells #[v,.int .i64 (k:Int)] t (0,0))):tH w b=k:=by
 unfold tH;rw[(aU h).2.1];simp
theorem sI{ts:List Tok}(hT:lC ts){f n k d:Nat}(hk:k<ts.length){k':Nat}{x:Ex}(h:dW ts f (.rd n k d)= .good k' x):k<k':=by
 have hm:=run_parts hT f (.rd n k d) hk;rw[h] at hm;have h1:=oM x;have h2:=hm.2;simp only[Job.at,Job.made] at h2;omega
theorem bG.set8'{p:Nat->Prop}{A:World}{b:Nat}{sv:Value}{l:List Ex}(h:bG p A sv l)(hb:∀i,p i->i≠b)(y0 y1 y2 y3 y4 y5 y6 y7:Value):bG p (set8 A b y0 y1 y2 y3 y4 y5 y6 y7) sv l:=h.keep (fun _ h=>h) fun i hi _=>bP _ (hb i hi) _ _ _ _ _ _ _ _
end
section
theorem c1g:(prog.info? 38).map (fun i=>(i.zero,i.size,i.bytes))=some (some (.agg #[.int .i64 0,.int .i64 0,.int .i64 0,S [],S [],S [],.int .i64 0,.slice none 0 0]),8,104):=by kernel_rfl
theorem a2u:∃i,prog.info? 38=some i/\i.zero=some (.agg #[.int .i64 0,.int .i64 0,.int .i64 0,S [],S [],S [],.int .i64 0,.slice none 0 0])/\i.size=8/\i.bytes=104:=by
 cases hi:prog.info? 38 with
 |none=>have:=c1g;rw[hi] at this;cases this
 |some i=>
  have:=c1g;rw[hi] at this;simp only[lX,Option.some.injEq,Prod.mk.injEq] at this;exact⟨i,rfl,this.1,this.2.1,this.2.2⟩
theorem wZ{o:Oper}{a:Act}{w:World}{K:Act->World->Prop}{Q:Exit->Act->World->Prop}(s x:Operand)(ho:o.op= .call {callee:= .builtin .append,args:= #[s,x],argTypes:= #[36,36]})
  (base:Nat) (v:Value) (acc:List (Ex×Value)) (hs:a.eval s=v) (hown:w.ownsRow base 38 8 v acc.length (a4j acc)) (b:Nat) (y:Ex) (a2:Option Addr) (n2 c2:Nat) (hx:a.eval x= .slice (some ⟨b,0,none⟩) 1 1) {t:TypeId}
  (hb:w.heap[b]?=some (.cells #[.int .i64 y.k,.int .i64 y.v.1,.int .i64 y.v.2.1,S y.v.2.2,S y.t,S y.n,.int .i64 y.o,.slice a2 n2 c2] t (0,0))) (hfew:acc.length<=1000000) (hbase:base<=w.heap.size)
  (h:∀v' w',w'.ownsRow base 38 8 v' (acc.length+1) (a4j (acc++[(y,.slice a2 n2 c2)]))->w.grownBy w' v.ownBlock->(v'.ownBlock=v.ownBlock\/v'.ownBlock=some w.heap.size)->K (a.put o.dst v') w'):Oper.wp prog o a w K Q:=by
 obtain⟨i,hi,hz0,hz1,hz2⟩:=a2u;obtain⟨v',w',hr,h2,h3,h4,h5⟩:=run_append_own_at (P:=prog) w base 36 o.type 38 i (.agg #[.int .i64 0,.int .i64 0,.int .i64 0,S [],S [],S [],.int .i64 0,.slice none 0 0]) 8 104 underlying36 hi hz0 hz1 hz2 rfl ae v acc.length (a4j acc) hown ⟨b,0,none⟩ 1 1 (qD y (.slice a2 n2 c2)) rfl
  (by
   intro j u hj;have:w.cell? ⟨b,0+j,none⟩=some u:=by
    rw[aG hb,gD,<-hj];unfold qD
    match j with
    |0|1|2|3|4|5|6|7=>rfl
    |n+8=>simp
   have e:(⟨b,0,none⟩:Addr).add j=⟨b,0+j,none⟩:=(by simp[dY];intro h;exact h.symm);rw[e];exact this)
  (by intro u hu;simp[qD] at hu;rcases hu with rfl|rfl|rfl|rfl|rfl|rfl|rfl|rfl<;>rfl) cG aE hbase
 unfold Oper.wp execOp;simp only[ho,resolve,invoke,builtin,Sem.run_bind,Sem.run_pure,Result.andThen_ok,List.map_toArray,kP,qZ,hs,hx,hr];refine h v' w' ?_ h3 h5;rw[b5e];exact h2
theorem bG.own{m:Nat}{v v':Value}{A B:World}{sv:Value}{l:List Ex}(h:bG (fun b=>m<=b/\some b≠v.ownBlock) A sv l)(hg:A.grownBy B v.ownBlock)(hat:v'.ownBlock=v.ownBlock\/v'.ownBlock=some A.heap.size):bG (fun b=>m<=b/\some b≠v'.ownBlock) B sv l:=
 (h.of (q:=fun b=>(m<=b/\some b≠v.ownBlock)/\some b≠v'.ownBlock) fun b hl hb=>⟨hb,by
  rcases hat with e|e
  ·rw[e];exact hb.2
  ·rw[e];intro h;injection h with h;omega⟩).keep (fun b hb=>⟨hb.1.1,hb.2⟩) fun b hb hl=>hg.block b hl hb.1.2
def lL(s:List UInt8)(W:World)(e:Ending)(w':World):Prop:=∃v,eO w' (iC s).2 v/\e= .returned (.tuple #[v,.int .i64 (iC s).1])/\Bl W w'
theorem a5t{s:List UInt8}(h:bY s≠0):mO s=false:=by
 unfold bY at h;unfold mO;by_cases h1:4000<s.length
 ·rw[if_pos h1]
 ·rw[if_neg h1] at h⊢;cases ht:jQ s with
  |none=>rfl
  |some ts=>rw[ht] at h;simp at h
def c7v(s:List UInt8):List Tok->Bool
 |[x]=>fH x&&(x.t==s)
 |_=>false
theorem b0f{s:List UInt8}{ts:List Tok}(hs:s.length<=4000)(h:jQ s=some ts):mO s=c7v s ts:=by
 unfold mO;rw[if_neg aE,h];rcases ts with _|⟨x,_|⟨y,r⟩⟩<;>rfl
end
section
theorem d2u.bind_good{α β:Type}{r:d2u α}{f:Nat->α->d2u β}{k:Nat}{y:β}(h:r.bind f= .good k y):∃k1 x,r= .good k1 x/\f k1 x= .good k y:=by
 cases r with
 |bad e=>cases h
 |good k1 x=>exact⟨k1,x,rfl,h⟩
section
variable {ts:List Tok} {k k':Nat}
theorem d4j(hT:lC ts)(hk:k<ts.length){x:Ex}(h:d3j ts k= .good k' x):k<k'/\k'<ts.length:=by
 unfold d3j at h;cases hr:uD ts k with
 |o=>rw[hr] at h;cases h
 |bad e=>rw[hr] at h;cases h
 |good a b=>
  rw[hr] at h;injection h with h1 h2;subst h1;have hm:=run_parts hT (steps ts) (.rd 0 k 0) hk;have hr':dW ts (steps ts) (.rd 0 k 0)= .good a b:=hr;rw[hr'] at hm;exact⟨sI hT hk hr',hm.1⟩
theorem e5z(hT:lC ts)(hk:k<ts.length){n:List UInt8}(h:asR ts k= .good k' n):k<=k'/\k'<ts.length:=by
 unfold asR at h;cases ht:bH ts k [wAs] with
 |none=>
  rw[ht] at h;injection h with h1;subst h1;exact⟨aH _,hk⟩
 |some k1=>
  rw[ht] at h;simp only at h;have h1:=kS hT hk ht;cases hn:mM ts k1 with
  |none=>rw[hn] at h;cases h
  |some p=>
   obtain⟨a,b⟩:=p;rw[hn] at h;injection h with h2;subst h2;have:=zH hT hn;omega
theorem d6m(hT:lC ts)(hk:k<ts.length){x:It}(h:d3x ts k= .good k' x):k<k'/\k'<ts.length:=by
 unfold d3x at h;cases ht:bH ts k [[42]] with
 |some k1=>
  rw[ht] at h;injection h with h1;subst h1;exact kS hT hk ht
 |none=>
  rw[ht] at h;simp only at h;cases hn:(mM ts k).bind fun p=>(bH ts p.2 [[46],[42]]).map fun k2=>(p.1,k2) with
  |some q=>
   obtain⟨n,k2⟩:=q;rw[hn] at h;injection h with h1;subst h1;obtain⟨p,hp,hq⟩:=dG.1 hn;obtain⟨a,b⟩:=p;obtain⟨c,hc,he⟩:=aT.1 hq;injection he with _ he;subst he;have h2:=zH hT hp;have h3:=gV hT h2.2 hc;simp only[aX,bL] at h3;omega
  |none=>
   rw[hn] at h;obtain⟨k1,y,h1,h2⟩:=d2u.bind_good h;obtain⟨k2,z,h3,h4⟩:=d2u.bind_good h2;injection h4 with h4;subst h4;have h5:=d4j hT hk h1;have:=e5z hT h5.2 h3;omega
def d8b{α:Type}(ts:List Tok)(one:Nat->d2u α)(R:d2u (List α))(kk:Nat)(acc:List α):Prop:=∃f,ts.length<=f+kk/\R=d3o ts one f kk acc
theorem d8b.start{α:Type}(ts:List Tok)(one:Nat->d2u α)(k:Nat):d8b ts one (d3o ts one ts.length k []) k []:=⟨_,Nat.le_add_right _ _,rfl⟩
theorem d8b.step{α:Type}{one:Nat->d2u α}{R:d2u (List α)}{kk:Nat}{acc:List α}(h:d8b ts one R kk acc)(hk:kk<ts.length)(hp:∀k1 x,one kk= .good k1 x->kk<k1):
  (∀c,one kk= .bad c->R= .bad c)/\∀k1 x,one kk= .good k1 x->(∀k2,bH ts k1 [[44]]=some k2->k1<k2->d8b ts one R k2 (acc++[x]))/\(bH ts k1 [[44]]=none->R= .good k1 (acc++[x])):=by
 obtain⟨f,hf,rfl⟩:=h;obtain⟨f,rfl⟩:∃g,f=g+1:=⟨f-1,by omega⟩
 refine⟨fun c hc=>by simp only[d3o,hc,d2u.bind],fun k1 x h1=>⟨fun k2 h2 hlt=>⟨f,by have:=hp k1 x h1;omega,by simp only[d3o,h1,d2u.bind,h2]⟩,fun h2=>by simp only[d3o,h1,d2u.bind,h2]⟩⟩
def e2p(ts:List Tok)(R:d2u (List Jo))(kk:Nat)(acc:List Jo):Prop:=∃f,ts.length<=f+kk/\R=d4u ts f kk acc
theorem e2p.start(ts:List Tok)(k:Nat):e2p ts (d4u ts ts.length k []) k []:=⟨_,Nat.le_add_right _ _,rfl⟩
theorem e2p.step{R:d2u (List Jo)}{kk:Nat}{acc:List Jo}(h:e2p ts R kk acc)(hk:kk<ts.length):
  (bH ts kk [d5v]=none->R= .good kk acc)/\∀k1,bH ts kk [d5v]=some k1->kk<k1->(∀c,d5h ts k1= .bad c->R= .bad c)/\∀k2 x,d5h ts k1= .good k2 x->k1<k2->e2p ts R k2 (acc++[x]):=by
 obtain⟨f,hf,rfl⟩:=h;obtain⟨f,rfl⟩:∃g,f=g+1:=⟨f-1,by omega⟩
 refine⟨fun h=>by simp only[d4u,h],fun k1 h1 hlt=>⟨fun c hc=>by simp only[d4u,h1,hc,d2u.bind],fun k2 x h2 hlt2=>⟨f,by omega,by simp only[d4u,h1,h2,d2u.bind]⟩⟩⟩
end
end
section
abbrev RV(bs:Nat):Value:= .agg #[.pointer (some ⟨bs,0,none⟩)]
abbrev Pan(c:Int):Ending:= .panicked [{v:= .iface 47 (.int .i64 c),recovered:=false}]
def gT(bs g cap:Nat)(ts:List Tok)(W:World)(r:Res)(e:Ending)(w':World):Prop:=
 W.grownBy w' (some bs)/\∃k',iV w' bs g cap ts k'/\((∃x v,r= .good k' x/\pU W.heap.size w' x v/\e= .returned v)\/(∃c,(c=260\/c=261)/\r= .bad c/\e=Pan c))
theorem b2o{A B:World}{r:Option Nat}(h:A.grownBy B r):A.heap.size<=B.heap.size:=h.4
theorem gT.from{bs g cap:Nat}{ts:List Tok}{W0 W:World}{r:Res}{e:Ending}{w':World}(hb:W0.grownBy W (some bs))(h:gT bs g cap ts W r e w'):gT bs g cap ts W0 r e w':=by
 obtain⟨h1,k',h2,h3⟩:=h;refine⟨dA hb h1,k',h2,?_⟩;rcases h3 with⟨x,v,e1,e2,e3⟩|h3
 ·exact .inl ⟨x,v,e1,e2.low (b2o hb),e3⟩
 ·exact .inr h3
theorem bG.grown{p:Nat->Prop}{bs:Nat}{A B:World}{sv:Value}{l:List Ex}(h:bG p A sv l)(hg:A.grownBy B (some bs))(hb:¬p bs):bG p B sv l:=
 h.keep (fun _ h=>h) fun b hp hl=>hg.block b hl (fun e=>by injection e with e;subst e;exact hb hp)
theorem gM.grown{p:Nat->Prop}{bs:Nat}{A B:World}{x:Ex}{v:Value}(h:gM p A x v)(hg:A.grownBy B (some bs))(hb:¬p bs):gM p B x v:=by
 obtain⟨sv,e,h⟩:=h;exact⟨sv,e,h.grown hg hb⟩
theorem gT.no{bs g cap:Nat}{ts:List Tok}{W:World}{r:Res}{w':World}{k':Nat}{c:Int}(hg:W.grownBy w' (some bs))(hs:iV w' bs g cap ts k')(hc:c=260\/c=261)(hr:r= .bad c):gT bs g cap ts W r (Pan c) w':=
 ⟨hg,k',hs,.inr ⟨c,hc,hr,rfl⟩⟩
theorem gT.yes{bs g cap:Nat}{ts:List Tok}{W:World}{r:Res}{w':World}{k':Nat}{x:Ex}{v:Value}(hg:W.grownBy w' (some bs))(hs:iV w' bs g cap ts k')(hr:r= .good k' x)(hx:pU W.heap.size w' x v):gT bs g cap ts W r (.returned v) w':=
 ⟨hg,k',hs,.inl ⟨x,v,hr,hx,rfl⟩⟩
def rdF(n:Nat):FuncId:=match n with
 |0=>332
 |1=>333
 |2=>334
 |3=>335
 |4=>336
 |5=>337
 |6=>359
 |_=>371
def RdP(f n:Nat):Prop:=∀(W:World) (bs g cap:Nat) (ts:List Tok) (k d:Nat) (d':Int),d'=d->iV W bs g cap ts k->lC ts->d<=60->dW ts f (.rd n k d)≠ .o->
 eg (rdF n) #[RV bs,.int .i64 d'] W (gT bs g cap ts W (dW ts f (.rd n k d)))
def c1c(f:Nat):Prop:=∀n,n<=7->RdP f n
def b7t(W:World)(bs g cap:Nat)(ts:List Tok)(k:Nat)(l:List Int)(e:Ending)(w':World):Prop:=
 W.grownBy w' (some bs)/\((∃o k',fI ts k l=some (o,k')/\e= .returned (.tuple #[.int .i64 o,.bool true])/\iV w' bs g cap ts k')\/(fI ts k l=none/\e= .returned (.tuple #[.int .i64 0,.bool false])/\iV w' bs g cap ts k))
def a0w(x:Nat)(W:World)(sv:Value)(l:List Int):Prop:=∃b off cap,sv= .slice (some ⟨b,off,none⟩) l.length cap/\b≠x/\b<W.heap.size/\∀j (h:j<l.length),W.cell? ⟨b,off+j,none⟩=some (.int .i64 l[j])
theorem a0w.grown{x:Nat}{A B:World}{sv:Value}{l:List Int}(h:a0w x A sv l)(hg:A.grownBy B (some x)):a0w x B sv l:=by
 obtain⟨b,off,cap,e,hb,hl,hc⟩:=h;refine⟨b,off,cap,e,hb,gK hl hg.4,fun j hj=>?_⟩;rw[jV (w:=A) (hg.block b hl (fun e=>by injection e with e;exact hb e))];exact hc j hj
theorem a0w.bl{x:Nat}{A B:World}{sv:Value}{l:List Int}(h:a0w x A sv l)(hg:Bl A B):a0w x B sv l:=h.grown (gI hg _)
end
section
theorem a7l{W:World}{b n₀ x:Nat}{xs:List (List UInt8)}{t:TypeId}(h:W.heap[b]?=some (.cells (xs.map fun s=>S s).toArray t (0,0)))(hb:b<n₀)(hx:b≠x):a8x n₀ x W (.slice (some ⟨b,0,none⟩) xs.length xs.length) xs:=by
 refine⟨_,xs.length,rfl,fun j hj=>⟨b,0,rfl,hb,hx,?_⟩⟩;rw[aG h];simp[hj]
theorem iV.lt'{W:World}{bs g cap k:Nat}{ts:List Tok}(h:iV W bs g cap ts k):bs<W.heap.size:=(aC.1 h.own).1
theorem a6d{W:World}{bs g cap k:Nat}{ts:List Tok}(h:iV W bs g cap ts k)(xs:List (List UInt8))(cs:Array Value)(n b:Nat)(t:TypeId)(hcs:cs=(xs.map fun s=>S s).toArray)(hn:n=xs.length)(hm:xs.length<=1000000)(hb:b=W.heap.size):
  eg 91 #[.pointer (some ⟨bs,0,none⟩),.slice (some ⟨b,0,none⟩) n n] (W.alloc (.cells cs t)) (a4f W bs g cap ts k xs):=by
 subst hcs;subst hn;subst hb;have hbl:=h.lt';refine(b4q (h.bl ((Bl.refl W).alloc _)) _ xs (a7l (aN W _) aa aE) hm).mono ?_;rintro e w' ⟨hg,hh⟩;exact⟨dA (gI ((Bl.refl W).alloc _) _) hg,hh⟩
theorem jD{W:World}{bs g cap k k':Nat}{ts:List Tok}(h:iV W bs g cap ts k)(xs:List (List UInt8))(ht:bH ts k xs=some k')(cs:Array Value)(n b:Nat)(t:TypeId)(hcs:cs=(xs.map fun s=>S s).toArray)(hn:n=xs.length)(hm:xs.length<=1000000)(hb:b=W.heap.size):
  eg 91 #[.pointer (some ⟨bs,0,none⟩),.slice (some ⟨b,0,none⟩) n n] (W.alloc (.cells cs t)) fun e w'=>e= .returned (.bool true)/\W.grownBy w' (some bs)/\iV w' bs g cap ts k':=by
 refine(a6d h xs cs n b t hcs hn hm hb).mono ?_;rintro e w' ⟨hg,(⟨k2,h1,rfl,hs⟩|⟨h1,rfl,hs⟩)⟩
 ·rw[ht] at h1;injection h1 with h1;subst h1;exact⟨rfl,hg,hs⟩
 ·rw[ht] at h1;cases h1
theorem kM{W:World}{bs g cap k:Nat}{ts:List Tok}(h:iV W bs g cap ts k)(xs:List (List UInt8))(ht:bH ts k xs=none)(cs:Array Value)(n b:Nat)(t:TypeId)(hcs:cs=(xs.map fun s=>S s).toArray)(hn:n=xs.length)(hm:xs.length<=1000000)(hb:b=W.heap.size):
  eg 91 #[.pointer (some ⟨bs,0,none⟩),.slice (some ⟨b,0,none⟩) n n] (W.alloc (.cells cs t)) fun e w'=>e= .returned (.bool false)/\W.grownBy w' (some bs)/\iV w' bs g cap ts k:=by
 refine(a6d h xs cs n b t hcs hn hm hb).mono ?_;rintro e w' ⟨hg,(⟨k2,h1,rfl,hs⟩|⟨h1,rfl,hs⟩)⟩
 ·rw[ht] at h1;cases h1
 ·exact⟨rfl,hg,hs⟩
theorem a3p{W:World}{bs g cap k k':Nat}{ts:List Tok}{n:List UInt8}(h:iV W bs g cap ts k)(hn:mM ts k=some (n,k')):eg 199 #[.pointer (some ⟨bs,0,none⟩)] W fun e w'=>e= .returned (.tuple #[S n,.bool true])/\W.grownBy w' (some bs)/\iV w' bs g cap ts k':=by
 unfold mM at hn;cases hx:ts[k]? with
 |none=>rw[hx] at hn;cases hn
 |some x=>
  rw[hx] at hn;simp only at hn;split at hn
  ·rename_i hi;injection hn with hn;injection hn with h1 h2;subst h1;subst h2;refine(a5b h hx).mono ?_;rintro e w' ⟨hg,(⟨h1,rfl,hs⟩|⟨h1,rfl,hs⟩)⟩
   ·exact⟨rfl,hg,hs⟩
   ·rw[hi] at h1;cases h1
  ·cases hn
theorem a8a{W:World}{bs g cap k:Nat}{ts:List Tok}(h:iV W bs g cap ts k)(hn:mM ts k=none):eg 199 #[.pointer (some ⟨bs,0,none⟩)] W fun e w'=>e= .returned (.tuple #[S [],.bool false])/\W.grownBy w' (some bs)/\iV w' bs g cap ts k:=by
 unfold mM at hn;have hx:ts[k]?=some (ts[k]'h.lt):=aP h.lt;rw[hx] at hn;simp only at hn;split at hn
 ·cases hn
 ·rename_i hi;refine(a5b h hx).mono ?_;rintro e w' ⟨hg,(⟨h1,rfl,hs⟩|⟨h1,rfl,hs⟩)⟩
  ·rw[h1] at hi;exact absurd rfl hi
  ·exact⟨rfl,hg,hs⟩
theorem vV(o:Int)(a:Option Addr)(n c:Nat)(w:World):eg 356 #[.int .i64 o,.slice a n c] w fun e w'=>e= .returned (EV 3 (0,0,[]) [] [] o (.slice a n c))/\Bl w w':=by
 go_enter func356,ntmps356;go_wp2;exact bodyPost_ret (v:=EV 3 (0,0,[]) [] [] o (.slice a n c)) (by simp[results,results356,go_sem]) rfl ⟨rfl,(Bl.refl w).alloc _⟩
theorem rR(n:Nat)(args:Array Value)(w:World):(callFunc (rdF n) args).run prog w= .ok (.enter (rdF n) args) w:=by
 unfold rdF;split<;>simp[go_sem]
theorem gT.open{bs g cap:Nat}{ts:List Tok}{W:World}{r:Res}{e:Ending}{w':World}(h:gT bs g cap ts W r e w'):
  W.grownBy w' (some bs)/\∃k',iV w' bs g cap ts k'/\((∃xk x1 x2 x3 xt xn xo xa asv csv,r= .good k' (.mk xk (x1,x2,x3) xt xn xo xa)/\tT W.heap.size w' (.slice asv xa.length csv) xa/\e= .returned (EV xk (x1,x2,x3) xt xn xo (.slice asv xa.length csv)))\/(∃c,(c=260\/c=261)/\r= .bad c/\e=Pan c)):=by
 obtain⟨hg,k',hs,h⟩:=h;refine⟨hg,k',hs,?_⟩;rcases h with⟨x,v,hr,⟨sv,rfl,hA⟩,rfl⟩|h
 ·obtain⟨asv,csv,rfl⟩:=hA.shape;obtain⟨xk,⟨x1,x2,x3⟩,xt,xn,xo,xa⟩:=x;exact .inl ⟨xk,x1,x2,x3,xt,xn,xo,xa,asv,csv,hr,hA,rfl⟩
 ·exact .inr h
end
section
theorem a2l{W:World}{bs g cap k:Nat}{ts:List Tok}(h':iV W bs g cap ts k){sv:Value}{l:List Int}(hI:a0w bs W sv l)(hl:l.length<=10)(ho:∀o∈l,1<=o/\o<=20):
  eg 358 #[RV bs,sv] W (b7t W bs g cap ts k l):=by
 have H:=aB h';have HI:=aB hI;have HO:=aB ho;obtain⟨b,off,capl,rfl,-,-,-⟩:=hI;clear ho;have hbl:=h'.lt';have hB0:=aN W (.cells #[.pointer (some ⟨bs,0,none⟩)] 320);clear h';go_enter func358,ntmps358;go_wp2_with fail;go_loopw [12] (fun i wr=>∃j:Nat,j<=l.length/\i= .int .i64 (j:Int)/\Hid (fI ts k l=fI ts k (l.drop j))/\Hid ((W.alloc (.cells #[.pointer (some ⟨bs,0,none⟩)] 320)).grownBy wr (some bs))/\Hid (iV wr bs g cap ts k)) (fun i _=>l.length-(intOf i).toNat)
 case atStart=>exact⟨0,dL _,rfl,rfl,gI (Bl.refl _) _,H.o.bl ((Bl.refl W).alloc _)⟩
 case round=>
  obtain⟨j,hj,rfl,HD,HG,HS⟩:=hrel;have hB1:=(HG.o.block _ aa ak).trans hB0;have HGW:=aB (dA (gI ((Bl.refl W).alloc _) (some bs)) HG.o);by_cases hlt:j<l.length
  ·have HDj:=aB (a1s (ts:=ts) (k:=k) hlt);obtain⟨b',off',capl',ea,hb',hl',hc⟩:=HI.o.grown HGW.o;obtain⟨⟨rfl,rfl⟩,rfl⟩:(b=b'/\off=off')/\capl=capl':=(by simpa using ea);have c:=hc j hlt;have hO:=HO.o _ (dS hlt);clear hc ea;generalize hy:l[j]=y at *;clear hy;go_wp2_with fail
   (with_reducible refine(uR y hO _).mono ?_)
   rintro e w1 ⟨rfl,hb1⟩;have HS1:=aB (HS.o.bl hb1);have HG3:=aB (dA (dA HG.o (gI hb1 (some bs))) (gI ((Bl.refl w1).alloc (.cells #[S (bI y),.int .i64 (fJ y:Int),.int .i64 (vM y),.int .i64 (fU y)] 284)) (some bs)));have hB2:=(hb1.block _ (aC.1 hB1).1).trans hB1;have p0:w1.cell? ⟨W.heap.size,0,none⟩=some (.pointer (some ⟨bs,0,none⟩)):=(by rw[aG hB2];rfl);have hlw:=(aC.1 hB2).1;have HS2:=aB (HS1.o.bl ((Bl.refl w1).alloc (.cells #[S (bI y),.int .i64 (fJ y:Int),.int .i64 (vM y),.int .i64 (fU y)] 284)));have HG2:=aB (dA (dA HGW.o (gI hb1 (some bs))) (gI ((Bl.refl w1).alloc (.cells #[S (bI y),.int .i64 (fJ y:Int),.int .i64 (vM y),.int .i64 (fU y)] 284)) (some bs)));cases ht:bH ts k [bI y] with
   |some k'=>
    have HT:=aB ht;have HE:Hid (fI ts k l=some (y,k')):=by
     show _=_;rw[HD.o,HDj.o,ht]
    clear ht;go_wp2_with fail;refine(jD HS2.o [bI y] HT.o _ 1 _ _ rfl rfl aa aa).mono ?_;rintro e w2 ⟨rfl,hg2,hs2⟩;go_wp2;refine bodyPost_ret (v:= .tuple #[.int .i64 y,.bool true]) (by simp[results,results358,go_sem]) rfl ⟨dA HG2.o hg2,.inl ⟨y,k',HE.o,rfl,hs2⟩⟩
   |none=>
    have HT:=aB ht;have HDD:Hid (fI ts k l=fI ts k (l.drop (j+1))):=by
     show _=_;rw[HD.o,HDj.o,ht]
    clear ht;go_wp2_with fail;refine(kM HS2.o [bI y] HT.o _ 1 _ _ rfl rfl aa aa).mono ?_;rintro e w2 ⟨rfl,hg2,hs2⟩;go_wp2;go_roundw
    case rel=>exact⟨j+1,by omega,by go_num,HDD.o,dA HG3.o hg2,hs2⟩
    case measure=>simp[intOf];omega
  ·obtain rfl:j=l.length:=by omega
   have HE:Hid (fI ts k l=none):=by
    show _=_;rw[HD.o,dO];rfl
   go_wp2;exact bodyPost_ret (v:= .tuple #[.int .i64 0,.bool false]) (by simp[results,results358,go_sem]) rfl ⟨HGW.o,.inr ⟨HE.o,rfl,HS.o⟩⟩
end
section
theorem kY{W:World}{bs g cap k:Nat}{ts:List Tok}(h:iV W bs g cap ts k):tH W bs=k:=yN h.own
theorem uY{A B:World}{r:Option Nat}(h:A.grownBy B r){b:Nat}(hb:A.heap.size<=b)(y0 y1 y2 y3 y4 y5 y6 y7:Value):A.grownBy (set8 B b y0 y1 y2 y3 y4 y5 y6 y7) r:=
 dP (dP (dP (dP (dP (dP (dP (dP h 0 hb _) 1 hb _) 2 hb _) 3 hb _) 4 hb _) 5 hb _) 6 hb _) 7 hb _
theorem iV.set8{W:World}{bs g cap k b:Nat}{ts:List Tok}(h:iV W bs g cap ts k)(hb:bs≠b)(hg:g≠b)(y0 y1 y2 y3 y4 y5 y6 y7:Value):iV (set8 W b y0 y1 y2 y3 y4 y5 y6 y7) bs g cap ts k:=
 h.keep (bP _ hb _ _ _ _ _ _ _ _) (bP _ hg _ _ _ _ _ _ _ _)
theorem iV.gl{W:World}{bs g cap k:Nat}{ts:List Tok}(h:iV W bs g cap ts k):g<W.heap.size:=bB _ _ (h.row k h.lt).1
theorem a2k{W:World}{bs g cap k k':Nat}{o:Int}{ts:List Tok}(h:iV W bs g cap ts k){sv:Value}{l:List Int}(hI:a0w bs W sv l)(hl:l.length<=10)(ho:∀o∈l,1<=o/\o<=20)(ht:fI ts k l=some (o,k')):
  eg 358 #[RV bs,sv] W fun e w'=>e= .returned (.tuple #[.int .i64 o,.bool true])/\W.grownBy w' (some bs)/\iV w' bs g cap ts k':=by
 refine(a2l h hI hl ho).mono ?_;rintro e w' ⟨hg,(⟨o',k2,h1,rfl,hs⟩|⟨h1,rfl,hs⟩)⟩
 ·rw[ht] at h1;injection h1 with h1;injection h1 with h1 h2;subst h1;subst h2;exact⟨rfl,hg,hs⟩
 ·rw[ht] at h1;cases h1
theorem a6c{W:World}{bs g cap k:Nat}{ts:List Tok}(h:iV W bs g cap ts k){sv:Value}{l:List Int}(hI:a0w bs W sv l)(hl:l.length<=10)(ho:∀o∈l,1<=o/\o<=20)(ht:fI ts k l=none):
  eg 358 #[RV bs,sv] W fun e w'=>e= .returned (.tuple #[.int .i64 0,.bool false])/\W.grownBy w' (some bs)/\iV w' bs g cap ts k:=by
 refine(a2l h hI hl ho).mono ?_;rintro e w' ⟨hg,(⟨o',k2,h1,rfl,hs⟩|⟨h1,rfl,hs⟩)⟩
 ·rw[ht] at h1;cases h1
 ·exact⟨rfl,hg,hs⟩
structure FrP(W A:World)(bs:Nat):Prop where
 grown:W.grownBy A (some bs)
 r:A.heap[W.heap.size]?=some (.cells #[.pointer (some ⟨bs,0,none⟩)] 320 (0,0))
 x:A.heap[W.heap.size+1]?=some (.cells #[.int .i64 0,.int .i64 0,.int .i64 0,S [],S [],S [],.int .i64 0,.slice none 0 0] 38 (0,0))
theorem FrP.next{W A B:World}{bs:Nat}(h:FrP W A bs)(hb:bs<W.heap.size)(hg:A.grownBy B (some bs)):FrP W B bs:=
 ⟨dA h.grown hg,(hg.block _ (aC.1 h.r).1 (fun e=>by injection e with e;omega)).trans h.r,(hg.block _ (aC.1 h.x).1 (fun e=>by injection e with e;omega)).trans h.x⟩
theorem FrP.bl{W A B:World}{bs:Nat}(h:FrP W A bs)(hb:Bl A B):FrP W B bs:=
 ⟨dA h.grown (gI hb _),(hb.block _ (aC.1 h.r).1).trans h.r,(hb.block _ (aC.1 h.x).1).trans h.x⟩
theorem FrP.start(W:World)(bs:Nat):FrP W ((W.alloc (.cells #[.pointer (some ⟨bs,0,none⟩)] 320)).alloc (.cells #[.int .i64 0,.int .i64 0,.int .i64 0,S [],S [],S [],.int .i64 0,.slice none 0 0] 38)) bs:=
 ⟨gI (((Bl.refl W).alloc _).alloc _) _,(aW _ _ aa).trans (aN _ _),aV _ _ aa⟩
theorem FrP.size{W A:World}{bs:Nat}(h:FrP W A bs):W.heap.size+1<A.heap.size:=(aC.1 h.x).1
theorem FrP.set8{W A:World}{bs b:Nat}(h:FrP W A bs)(hb:W.heap.size+1<b)(y0 y1 y2 y3 y4 y5 y6 y7:Value):FrP W (set8 A b y0 y1 y2 y3 y4 y5 y6 y7) bs:=
 ⟨uY h.grown aE _ _ _ _ _ _ _ _,(bP _ aE _ _ _ _ _ _ _ _).trans h.r,(bP _ aE _ _ _ _ _ _ _ _).trans h.x⟩
theorem cK{W:World}{b:Nat}{x:Value}{t:TypeId}(h:W.heap[b]?=some (.cells #[x] t (0,0))):W.cell? ⟨b,0,none⟩=some x:=by rw[aG h];rfl
theorem FrP.fin{W A:World}{bs g cap kk:Nat}{ts:List Tok}{R:Res}(h:FrP W A bs)(hb:bs<W.heap.size)(hgl:g<W.heap.size)(hs:iV A bs g cap ts kk){yk y1 y2 yo:Int}{y3 yt yn:List UInt8}{ya:List Ex}{ysv:Option Addr}{ycv:Nat}(hA:bG (fun b=>W.heap.size+2<=b) A (.slice ysv ya.length ycv) ya)(hR:R= .good kk (.mk yk (y1,y2,y3) yt yn yo ya)):
  gT bs g cap ts W R (.returned (EV yk (y1,y2,y3) yt yn yo (.slice ysv ya.length ycv))) (Go.Proofs.YtohlomdapelgeaaGreatDoor.set8 A (W.heap.size+1) (.int .i64 yk) (.int .i64 y1) (.int .i64 y2) (S y3) (S yt) (S yn) (.int .i64 yo) (.slice ysv ya.length ycv)):=
 gT.yes (uY h.grown aE _ _ _ _ _ _ _ _) (hs.set8 aE aE _ _ _ _ _ _ _ _) hR ⟨_,rfl,(hA.keep (q:=fun b=>W.heap.size<=b) (fun b hb=>by omega) fun b hb _=>bP _ aE _ _ _ _ _ _ _ _)⟩
def c7a(ts:List Tok)(R:Res)(n d f kk:Nat)(x:Ex):Prop:=∃f',f'<=f/\R=dW ts f' (.lp n kk d x)
theorem a0i{n:Nat}{o:Int}(h:o∈dZ n):1<=o/\o<=20:=by
 unfold dZ at h;split at h<;>simp at h<;>omega
theorem b6g(n:Nat):(dZ n).length<=10:=by
 unfold dZ;split<;>simp
theorem kI{f:Nat}(IH:∀f',f'<=f->c1c f'){W:World}{bs g cap k n d:Nat}{ts:List Tok}(h:iV W bs g cap ts k)(hT:lC ts)(hd:d<=60)(hn:n<=6)(fn:FuncId)(hfn:fn=rdF (n+1))(l:List Int)(hl:l=dZ n)(sv:Value)(hI:a0w bs W sv l)
  (hne:((dW ts f (.rd (n+1) k d)).bind fun k1 x=>dW ts f (.lp n k1 d x))≠ .o):
  eg 355 #[RV bs,.int .i64 (d:Int),.func (.func fn) #[] #[],sv] W (gT bs g cap ts W ((dW ts f (.rd (n+1) k d)).bind fun k1 x=>dW ts f (.lp n k1 d x))):=by
 subst hfn;have hen:=rR (n+1);have H:=aB h;have HI:=aB IH;have HT:=aB hT;have HIN:=aB hI;have hbl:=h.lt';have hgl:=h.gl;obtain⟨b,off,capl,rfl,-,-,-⟩:=hI;obtain⟨R,HR0⟩:∃R,Hid (R=(dW ts f (.rd (n+1) k d)).bind fun k1 x=>dW ts f (.lp n k1 d x)):=⟨_,rfl⟩
 rw[<-HR0.o] at hne⊢;have HNE:=aB hne;have HN1:=aB (show dW ts f (.rd (n+1) k d)≠ .o from lG (by rw[<-HR0.o];exact hne));have HL:=aB hl;have hll:l.length<=10:=(by rw[hl];exact b6g n);have HLO:=aB (show ∀o∈l,1<=o/\o<=20 from fun o ho=>a0i (n:=n) (by rw[<-hl];exact ho));have HF0:=aB (FrP.start W bs);clear h IH hT hne hl;go_enter func355,ntmps355;go_wp2_with fail;refine(HI.o f (aH _) (n+1) aE _ bs g cap ts k d _ rfl (H.o.bl (((Bl.refl W).alloc _).alloc _)) HT.o hd HN1.o).mono ?_;intro e w1 hp;obtain⟨hg1,k1,hs1,(⟨xk,x1,x2,x3,xt,xn,xo,xa,asv,csv,hr,hA,rfl⟩|⟨c,hc,hr,rfl⟩)⟩:=hp.open
 ·clear hp;have HF1:=aB (HF0.o.next hbl hg1);have HSt:=aB (show c7a ts R n d f k1 (.mk xk (x1,x2,x3) xt xn xo xa) from⟨f,aH _,by rw[HR0.o,hr];rfl⟩);have hz1:=HF1.o.size;have HA:=aB (show bG (fun b=>W.heap.size+2<=b/\b≠w1.heap.size) w1 (.slice asv xa.length csv) xa from hA.of fun b hl (hb:_<=b)=>⟨by simp at hb;omega,by omega⟩);have HS1:=aB hs1;clear hg1 hs1 hA hr;go_wp2_with fail;go_loopw [10] (fun o wr=>∃(v0:Value) (kk:Nat) (yk y1 y2:Int) (y3 yt yn:List UInt8) (yo:Int) (ya:List Ex) (ysv:Option Addr) (ycv:Nat),o=v0/\Hid (FrP W wr bs)/\Hid (iV wr bs g cap ts kk)/\
   Hid (wr.heap[w1.heap.size]?=some (.cells #[.int .i64 yk,.int .i64 y1,.int .i64 y2,S y3,S yt,S yn,.int .i64 yo,.slice ysv ya.length ycv] 38 (0,0)))/\
   Hid (bG (fun b=>W.heap.size+2<=b/\b≠w1.heap.size) wr (.slice ysv ya.length ycv) ya)/\Hid (c7a ts R n d f kk (.mk yk (y1,y2,y3) yt yn yo ya))) (fun _ wr=>ts.length-tH wr bs)
  case atStart=>exact⟨_,k1,xk,x1,x2,x3,xt,xn,xo,xa,asv,csv,rfl,HF1.o.bl ((Bl.refl _).alloc _),HS1.o.bl ((Bl.refl _).alloc _),aN _ _,HA.o.bl ((Bl.refl _).alloc _),HSt.o⟩
  case round=>
   clear HA HS1 HSt;obtain⟨v0,kk,yk,y1,y2,y3,yt,yn,yo,ya,ysv,ycv,rfl,HF,HS,HX,HA,HSt⟩:=hrel;have p0:=cK HF.o.r;have hkk:=HS.o.lt;have hzr:=(aC.1 HX.o).1;obtain⟨f',hf',hRf⟩:=HSt.o;obtain⟨f2,rfl⟩:∃f2,f'=f2+1:=by
    cases f' with
    |zero=>exact absurd hRf HNE.o
    |succ m=>exact⟨m,rfl⟩
   replace hRf:R=nI ts (dW ts f2) (.lp n kk d (.mk yk (y1,y2,y3) yt yn yo ya)):=hRf
   rw[wG] at hRf;clear HSt;have HINr:=aB (HIN.o.grown HF.o.grown);cases ht:fI ts kk (dZ n) with
   |none=>
    rw[ht] at hRf;have HRF:=aB hRf;rw[<-HL.o] at ht;have HTK:=aB ht;clear hRf ht;go_wp2_with fail
    (with_reducible refine(a6c HS.o HINr.o hll HLO.o HTK.o).mono ?_)
    rintro e w2 ⟨rfl,hg2,hs2⟩;have HX2:=aB ((hg2.block _ hzr (fun e=>by injection e with e;omega)).trans HX.o);have HF2:=aB (HF.o.next hbl hg2);have HA2:=aB (HA.o.grown hg2 (fun h=>by omega));have HS2:=aB hs2;obtain⟨⟨e0,e1,e2,e3,e4,e5,e6,e7⟩,-⟩:=eight HX2.o;obtain⟨-,f0,f1,f3,f4,f5,f6,f7,f8⟩:=eight HF2.o.x;obtain⟨⟨i0,i1,i2,i3,i4,i5,i6,i7⟩,-⟩:=eight HF2.o.x;clear hg2 hs2 p0;go_wp2;obtain⟨⟨q0,q1,q2,q3,q4,q5,q6,q7⟩,-⟩:=eight (bO (HF2.o).x (.int .i64 yk) (.int .i64 y1) (.int .i64 y2) (S y3) (S yt) (S yn) (.int .i64 yo) (.slice ysv ya.length ycv));exact bodyPost_ret (v:=EV yk (y1,y2,y3) yt yn yo (.slice ysv ya.length ycv)) (by simp[results,results355,go_sem,q0,q1,q2,q3,q4,q5,q6,q7]) rfl
     (HF2.o.fin hbl hgl HS2.o (HA2.o.of fun b _ hb=>hb.1) HRF.o)
   |some q=>
    obtain⟨o,k2⟩:=q;rw[ht] at hRf;have HRF:=aB hRf;have hk2:=pE HT.o hkk ht;have hrne:=aB (lG (g:=fun k3 y=>dW ts f2 (.lp n k3 d (opE o [.mk yk (y1,y2,y3) yt yn yo ya,y]))) (show _ from by have:=HNE.o;rw[hRf] at this;exact this));rw[<-HL.o] at ht;have HTK:=aB ht;clear hRf ht;go_wp2_with fail
    (with_reducible refine(a2k HS.o HINr.o hll HLO.o HTK.o).mono ?_)
    rintro e w2 ⟨rfl,hg2,hs2⟩;have HX2:=aB ((hg2.block _ hzr (fun e=>by injection e with e;omega)).trans HX.o);have HF2:=aB (HF.o.next hbl hg2);have HA2:=aB (HA.o.grown hg2 (fun h=>by omega));have HS2:=aB hs2;have hz2:=hg2.4;clear hg2 hs2 p0;go_wp2_with fail;refine(bM (fun B=>B.heap[W.heap.size]?=some (.cells #[.pointer (some ⟨bs,0,none⟩)] 320 (0,0))) ((.take 0 (.take 2 (.take 3 (.take 4 (.two 1 5 (.one 5 (.one 6 (.one 7 (.one 8 .done)))) (.one 1 (.one 6 (.one 7 (.one 8 .done)))))))))) af af af (fun c a d v w h=>by cases d<;>exact h) ((HF2.o.bl ((Bl.refl _).drew)).r) ?_);intro wd HWD hY;iterate 4 (refine cT ?_)
    refine sZ ?_ ?_
    focus
     obtain⟨⟨e0,e1,e2,e3,e4,e5,e6,e7⟩,-⟩:=eight (Eq.trans (HWD.o.block _ (aC.1 HX2.o).1) HX2.o);refine aL rfl (fun K hK=>?_);go_simp;refine hK.o _ _ (hY) ?_;clear hY hK K;intro hY;clear e0 e1 e2 e3 e4 e5 e6 e7;refine aL rfl (fun K hK=>?_);go_simp;(refine(HI.o f2 aE (n+1) aE _ bs g cap ts k2 d _ rfl (HS2.o.bl HWD.o) HT.o hd hrne.o).mono ?_;intro e w5 hp;obtain⟨hg5,k5,hs5,hcase⟩:=hp.open;clear hp;have HF5:=aB ((HF2.o.bl HWD.o).next hbl hg5);rcases hcase with⟨zk,z1,z2,z3,zt,zn,zo,za,zsv,zcv,hr5,hZ,rfl⟩|⟨c,hc,hr5,rfl⟩;rotate_left;(· go_wp2;exact⟨rfl,gT.no HF5.o.grown hs5 hc ed⟩);have hzd:=HWD.o.size;have HX5:=aB ((hg5.block _ aE (fun e=>by injection e with e;omega)).trans ((HWD.o.block _ aE).trans HX2.o));have HS5:=aB hs5;have HR5:=aB hr5;have HA5:=aB ((HA2.o.bl HWD.o).grown hg5 (fun h=>by omega));have hz5:=hg5.4;have HZ:=aB (show bG (fun b=>W.heap.size+2<=b/\b≠w1.heap.size) w5 (.slice zsv za.length zcv) za from hZ.of fun b hl (hb:_<=b)=>⟨by omega,by omega⟩);clear hg5 hs5 hr5 hZ;obtain⟨⟨g0,g1,g2,g3,g4,g5,g6,g7⟩,-⟩:=eight HX5.o);go_wp2_with fail;refine hK.o _ _ (eC) ?_;clear hY hK K;intro hY;refine aL rfl (fun K hK=>?_);go_simp;refine hK.o _ _ (((HF5.o.bl ((Bl.refl _).alloc _)).r)) ?_;clear hY hK K;intro hY;refine aL rfl (fun K hK=>?_);go_simp;((with_reducible refine(vV o _ _ _ _).mono ?_);rintro e w7 ⟨rfl,hb7⟩;have HB7:=aB (((Bl.refl w5).alloc _).call hb7);have HSL:=aB ((hb7.block w5.heap.size aa).trans (aV _ _ (k:=w5.heap.size) rfl));have HF7:=aB (HF5.o.bl HB7.o);have HX7:=aB ((HB7.o.block _ aE).trans HX5.o);clear hb7);go_wp2_with fail;refine hK.o _ _ (eC) ?_;clear hY hK K;intro hY;obtain⟨⟨e0,e1,e2,e3,e4,e5,e6,e7⟩,f0,f1,f3,f4,f5,f6,f7,f8⟩:=eight HX7.o;refine aL rfl (fun K hK=>?_);go_simp;refine hK.o _ _ (((bP _ (b:=w1.heap.size) aE _ _ _ _ _ _ _ _).trans HF7.o.r)) ?_;clear hY hK K;intro hY;clear e0 e1 e2 e3 e4 e5 e6 e7 f0 f1 f3 f4 f5 f6 f7 f8;refine fO ?_;go_wp2;go_roundw
     case rel=>exact⟨_,k5,3,0,0,[],[],[],o,[.mk yk (y1,y2,y3) yt yn yo ya,.mk zk (z1,z2,z3) zt zn zo za],some ⟨w5.heap.size,0,none⟩,2,rfl,HF7.o.set8 aE _ _ _ _ _ _ _ _,(HS5.o.bl HB7.o).set8 aE aE _ _ _ _ _ _ _ _,bO HX7.o _ _ _ _ _ _ _ _,(b8f (p:=fun b=>W.heap.size+2<=b/\b≠w1.heap.size) 2 ⟨by omega,by omega⟩ HSL.o (HA5.o.bl HB7.o) (HZ.o.bl HB7.o)).set8' (fun i hi=>hi.2) _ _ _ _ _ _ _ _,⟨f2,by omega,by rw[HRF.o];(try simp only);rw[HR5.o];rfl⟩⟩
     case measure=>have n1:=kY HS.o;have n2:=kY ((HS5.o.bl HB7.o).set8 (b:=w1.heap.size) aE aE (.int .i64 3) (.int .i64 0) (.int .i64 0) (S []) (S []) (S []) (.int .i64 o) (.slice (some ⟨w5.heap.size,0,none⟩) 2 2));have hp:=sI HT.o hk2.2 HR5.o;have hp2:=hk2.1;show ts.length-tH (set8 w7 w1.heap.size (.int .i64 3) (.int .i64 0) (.int .i64 0) (S []) (S []) (S []) (.int .i64 o) (.slice (some ⟨w5.heap.size,0,none⟩) 2 2)) bs<ts.length-tH wr bs;rw[n1,n2];omega
    rotate_left 1
    focus
     refine aL rfl (fun K hK=>?_);go_simp;(refine(HI.o f2 aE (n+1) aE _ bs g cap ts k2 d _ rfl (HS2.o.bl HWD.o) HT.o hd hrne.o).mono ?_;intro e w5 hp;obtain⟨hg5,k5,hs5,hcase⟩:=hp.open;clear hp;have HF5:=aB ((HF2.o.bl HWD.o).next hbl hg5);rcases hcase with⟨zk,z1,z2,z3,zt,zn,zo,za,zsv,zcv,hr5,hZ,rfl⟩|⟨c,hc,hr5,rfl⟩;rotate_left;(· go_wp2;exact⟨rfl,gT.no HF5.o.grown hs5 hc ed⟩);have hzd:=HWD.o.size;have HX5:=aB ((hg5.block _ aE (fun e=>by injection e with e;omega)).trans ((HWD.o.block _ aE).trans HX2.o));have HS5:=aB hs5;have HR5:=aB hr5;have HA5:=aB ((HA2.o.bl HWD.o).grown hg5 (fun h=>by omega));have hz5:=hg5.4;have HZ:=aB (show bG (fun b=>W.heap.size+2<=b/\b≠w1.heap.size) w5 (.slice zsv za.length zcv) za from hZ.of fun b hl (hb:_<=b)=>⟨by omega,by omega⟩);clear hg5 hs5 hr5 hZ;obtain⟨⟨g0,g1,g2,g3,g4,g5,g6,g7⟩,-⟩:=eight HX5.o);go_wp2_with fail;refine hK.o _ _ (eC) ?_;clear hY hK K;intro hY;obtain⟨⟨e0,e1,e2,e3,e4,e5,e6,e7⟩,-⟩:=eight (Eq.trans (HWD.o.block _ (aC.1 HX2.o).1) HX2.o);refine aL rfl (fun K hK=>?_);go_simp;refine hK.o _ _ (hY) ?_;clear hY hK K;intro hY;clear e0 e1 e2 e3 e4 e5 e6 e7;refine aL rfl (fun K hK=>?_);go_simp;refine hK.o _ _ (((HF5.o.bl ((Bl.refl _).alloc _)).r)) ?_;clear hY hK K;intro hY;refine aL rfl (fun K hK=>?_);go_simp;((with_reducible refine(vV o _ _ _ _).mono ?_);rintro e w7 ⟨rfl,hb7⟩;have HB7:=aB (((Bl.refl w5).alloc _).call hb7);have HSL:=aB ((hb7.block w5.heap.size aa).trans (aV _ _ (k:=w5.heap.size) rfl));have HF7:=aB (HF5.o.bl HB7.o);have HX7:=aB ((HB7.o.block _ aE).trans HX5.o);clear hb7);go_wp2_with fail;refine hK.o _ _ (eC) ?_;clear hY hK K;intro hY;obtain⟨⟨e0,e1,e2,e3,e4,e5,e6,e7⟩,f0,f1,f3,f4,f5,f6,f7,f8⟩:=eight HX7.o;refine aL rfl (fun K hK=>?_);go_simp;refine hK.o _ _ (((bP _ (b:=w1.heap.size) aE _ _ _ _ _ _ _ _).trans HF7.o.r)) ?_;clear hY hK K;intro hY;clear e0 e1 e2 e3 e4 e5 e6 e7 f0 f1 f3 f4 f5 f6 f7 f8;refine fO ?_;go_wp2;go_roundw
     case rel=>exact⟨_,k5,3,0,0,[],[],[],o,[.mk yk (y1,y2,y3) yt yn yo ya,.mk zk (z1,z2,z3) zt zn zo za],some ⟨w5.heap.size,0,none⟩,2,rfl,HF7.o.set8 aE _ _ _ _ _ _ _ _,(HS5.o.bl HB7.o).set8 aE aE _ _ _ _ _ _ _ _,bO HX7.o _ _ _ _ _ _ _ _,(b8f (p:=fun b=>W.heap.size+2<=b/\b≠w1.heap.size) 2 ⟨by omega,by omega⟩ HSL.o (HA5.o.bl HB7.o) (HZ.o.bl HB7.o)).set8' (fun i hi=>hi.2) _ _ _ _ _ _ _ _,⟨f2,by omega,by rw[HRF.o];(try simp only);rw[HR5.o];rfl⟩⟩
     case measure=>have n1:=kY HS.o;have n2:=kY ((HS5.o.bl HB7.o).set8 (b:=w1.heap.size) aE aE (.int .i64 3) (.int .i64 0) (.int .i64 0) (S []) (S []) (S []) (.int .i64 o) (.slice (some ⟨w5.heap.size,0,none⟩) 2 2));have hp:=sI HT.o hk2.2 HR5.o;have hp2:=hk2.1;show ts.length-tH (set8 w7 w1.heap.size (.int .i64 3) (.int .i64 0) (.int .i64 0) (S []) (S []) (S []) (.int .i64 o) (.slice (some ⟨w5.heap.size,0,none⟩) 2 2)) bs<ts.length-tH wr bs;rw[n1,n2];omega
 ·clear hp;go_wp2;exact⟨rfl,gT.no (dA HF0.o.grown hg1) hs1 hc (by rw[HR0.o,hr];rfl)⟩
end
section
abbrev lvV:Value:= .agg #[.func (.func 332) #[] #[],.func (.func 333) #[] #[],.func (.func 334) #[] #[],.func (.func 335) #[] #[],.func (.func 336) #[] #[],.func (.func 337) #[] #[]]
def lvC:Array Value:= #[.func (.func 332) #[] #[],.func (.func 333) #[] #[],.func (.func 334) #[] #[],.func (.func 335) #[] #[],.func (.func 336) #[] #[],.func (.func 337) #[] #[]]
def lvZ:Array Value:= #[.nilFunc,.nilFunc,.nilFunc,.nilFunc,.nilFunc,.nilFunc]
theorem c1v:(prog.info? 318).map (·.size)=some 6:=by kernel_rfl
theorem jK(w:World):eg 299 #[] w fun e w'=>e= .returned lvV/\Bl w w':=by
 have hzv:∀w,(zeroValue 318).run prog w= .ok (.agg lvZ) w:=fun _=>af;have hbd:∀w,Sem.run prog (Instr.build 318 #[(0,.func (.func 332) #[] #[]),(1,.func (.func 333) #[] #[]),(2,.func (.func 334) #[] #[]),(3,.func (.func 335) #[] #[]),(4,.func (.func 336) #[] #[]),(5,.func (.func 337) #[] #[])]) w= .ok (.agg lvC) w:=fun _=>af;go_enter func299,ntmps299;go_wp2_with (first
  |(refine wpList_store_row rfl 318 (.tmp 0) (.tmp 1) rfl w.heap.size lvC rfl af 318 lvZ (aN w _) c1v rfl af ?_))
 have hW:((w.alloc (.cells lvZ 318)).setRow w.heap.size lvC)=w.alloc (.cells lvC 318):=lD w lvZ lvC 318;refine bodyPost_ret (v:= .agg lvC) (results_cell_row (p:=0) (ty:=318) rfl _ _ w.heap.size 318 lvC (0,0) (.array 6 317) rfl ?_ af rfl c1v) rfl ⟨rfl,by rw[hW];exact(Bl.refl w).alloc _⟩;exact(congrArg (fun W:World=>W.heap[w.heap.size]?) hW).trans (aN w _)
theorem jU(W:World){bs:Nat}(hb:bs<W.heap.size)(l:List Int)(cs:Array Value)(t:TypeId)(hcs:cs=(l.map fun o=>Value.int .i64 o).toArray)(n cap b:Nat)(hn:n=l.length)(hw:b=W.heap.size):a0w bs (W.alloc (.cells cs t)) (.slice (some ⟨b,0,none⟩) n cap) l:=by
 subst hcs;subst hn;subst hw;refine⟨_,0,cap,rfl,by omega,by simp,fun j hj=>?_⟩;rw[aG (aN W _)];simp[hj]
theorem c3r{f:Nat}(IH:∀f',f'<=f->c1c f'){W:World}{bs g cap k d:Nat}{ts:List Tok}(h:iV W bs g cap ts k)(hT:lC ts)(hd:d<=60)
  (hne:((dW ts f (.rd (0+1) k d)).bind fun k1 x=>dW ts f (.lp 0 k1 d x))≠ .o):
  eg 332 #[RV bs,.int .i64 (d:Int)] W (gT bs g cap ts W ((dW ts f (.rd (0+1) k d)).bind fun k1 x=>dW ts f (.lp 0 k1 d x))):=by
 have H:=aB h;have HI:=aB IH;have HT:=aB hT;obtain⟨R,HR0⟩:∃R,Hid (R=(dW ts f (.rd (0+1) k d)).bind fun k1 x=>dW ts f (.lp 0 k1 d x)):=⟨_,rfl⟩
 rw[<-HR0.o] at hne⊢;have HNE:=aB hne;have hbl:=h.lt';have hgl:=h.gl;have HF0:=aB (FrP.start W bs);have HB0:=aB (((Bl.refl W).alloc (.cells #[.pointer (some ⟨bs,0,none⟩)] 320)).alloc (.cells #[.int .i64 0,.int .i64 0,.int .i64 0,S [],S [],S [],.int .i64 0,.slice none 0 0] 38));clear h IH hT hne;go_enter func332,ntmps332;go_wp2_with fail;refine(bM (fun B=>B.heap[W.heap.size]?=some (.cells #[.pointer (some ⟨bs,0,none⟩)] 320 (0,0))) ((.take 0 (.take 1 (.two 2 4 (.take 3 (.one 4 (.one 5 (.one 6 .done)))) (.one 2 (.take 3 (.one 5 (.one 6 .done)))))))) af af af (fun c a d v w h=>by cases d<;>exact h) ((HF0.o.bl ((Bl.refl _).drew)).r) ?_);intro wd HWD hY;iterate 2 (refine cT ?_)
 refine sZ ?_ ?_
 focus
  refine aL rfl (fun K hK=>?_);go_simp;((with_reducible refine(jK _).mono ?_);rintro e w2 ⟨rfl,hb2⟩;have HB2:=aB hb2;have HF2:Hid (FrP W w2 bs):=cM;have HW2:Hid (Bl W w2):=cN;have hz2:=HF2.o.size;clear hb2);go_wp2_with fail;refine hK.o _ _ (ax) ?_;clear hY hK K;intro hY;refine cT ?_;refine aL rfl (fun K hK=>?_);go_simp;refine hK.o _ _ (cL) ?_;clear hY hK K;intro hY;refine aL rfl (fun K hK=>?_);go_simp;(refine(kI HI.o (n:=0) cQ HT.o hd aE _ rfl [14] rfl _ (by first |exact jU w2 aE [14] _ _ rfl _ _ _ rfl aa|exact(jU wd cU [14] _ _ rfl _ _ _ rfl aa).bl HB2.o) br).mono ?_;rw[<-HR0.o];intro e w5 hp;obtain⟨hg5,k5,hs5,hcase⟩:=hp.open;clear hp;have HF5:=aB (show FrP W w5 bs from by first |exact(HF2.o.bl ((Bl.refl _).alloc _)).next hbl hg5|exact HF2.o.next hbl hg5);have HS5:=aB hs5;rcases hcase with⟨yk,y1,y2,y3,yt,yn,yo,ya,ysv,ycv,hr5,hA,rfl⟩|⟨c,hc,hr5,rfl⟩;rotate_left;(· go_wp2;exact⟨rfl,gT.no HF5.o.grown HS5.o hc bc⟩);have HR5:=aB hr5;have HA5:=aB (show bG (fun b=>W.heap.size+2<=b) w5 (.slice ysv ya.length ycv) ya from hA.of fun b _ (hb:_<=b)=>by(try simp at hb);omega);clear hg5 hs5 hr5 hA);go_wp2_with fail;refine hK.o _ _ (ax) ?_;clear hY hK K;intro hY;obtain⟨⟨e0,e1,e2,e3,e4,e5,e6,e7⟩,f0,f1,f3,f4,f5,f6,f7,f8⟩:=eight HF5.o.x;refine aL rfl (fun K hK=>?_);go_simp;refine hK.o _ _ (((bP _ (b:=W.heap.size+1) aE _ _ _ _ _ _ _ _).trans HF5.o.r)) ?_;clear hY hK K;intro hY;clear e0 e1 e2 e3 e4 e5 e6 e7 f0 f1 f3 f4 f5 f6 f7 f8;refine fO ?_;go_wp2;obtain⟨⟨q0,q1,q2,q3,q4,q5,q6,q7⟩,-⟩:=eight (bO HF5.o.x (.int .i64 yk) (.int .i64 y1) (.int .i64 y2) (S y3) (S yt) (S yn) (.int .i64 yo) (.slice ysv ya.length ycv));exact bodyPost_ret (v:=EV yk (y1,y2,y3) yt yn yo (.slice ysv ya.length ycv)) (by simp[results,results332,go_sem,q0,q1,q2,q3,q4,q5,q6,q7]) rfl (HF5.o.fin hbl hgl HS5.o HA5.o HR5.o)
 rotate_left 1
 focus
  refine aL rfl (fun K hK=>?_);go_simp;refine hK.o _ _ (cL) ?_;clear hY hK K;intro hY;refine aL rfl (fun K hK=>?_);go_simp;((with_reducible refine(jK _).mono ?_);rintro e w2 ⟨rfl,hb2⟩;have HB2:=aB hb2;have HF2:Hid (FrP W w2 bs):=cM;have HW2:Hid (Bl W w2):=cN;have hz2:=HF2.o.size;clear hb2);go_wp2_with fail;refine hK.o _ _ (ax) ?_;clear hY hK K;intro hY;refine cT ?_;refine aL rfl (fun K hK=>?_);go_simp;(refine(kI HI.o (n:=0) cQ HT.o hd aE _ rfl [14] rfl _ (by first |exact jU w2 aE [14] _ _ rfl _ _ _ rfl aa|exact(jU wd cU [14] _ _ rfl _ _ _ rfl aa).bl HB2.o) br).mono ?_;rw[<-HR0.o];intro e w5 hp;obtain⟨hg5,k5,hs5,hcase⟩:=hp.open;clear hp;have HF5:=aB (show FrP W w5 bs from by first |exact(HF2.o.bl ((Bl.refl _).alloc _)).next hbl hg5|exact HF2.o.next hbl hg5);have HS5:=aB hs5;rcases hcase with⟨yk,y1,y2,y3,yt,yn,yo,ya,ysv,ycv,hr5,hA,rfl⟩|⟨c,hc,hr5,rfl⟩;rotate_left;(· go_wp2;exact⟨rfl,gT.no HF5.o.grown HS5.o hc bc⟩);have HR5:=aB hr5;have HA5:=aB (show bG (fun b=>W.heap.size+2<=b) w5 (.slice ysv ya.length ycv) ya from hA.of fun b _ (hb:_<=b)=>by(try simp at hb);omega);clear hg5 hs5 hr5 hA);go_wp2_with fail;refine hK.o _ _ (ax) ?_;clear hY hK K;intro hY;obtain⟨⟨e0,e1,e2,e3,e4,e5,e6,e7⟩,f0,f1,f3,f4,f5,f6,f7,f8⟩:=eight HF5.o.x;refine aL rfl (fun K hK=>?_);go_simp;refine hK.o _ _ (((bP _ (b:=W.heap.size+1) aE _ _ _ _ _ _ _ _).trans HF5.o.r)) ?_;clear hY hK K;intro hY;clear e0 e1 e2 e3 e4 e5 e6 e7 f0 f1 f3 f4 f5 f6 f7 f8;refine fO ?_;go_wp2;obtain⟨⟨q0,q1,q2,q3,q4,q5,q6,q7⟩,-⟩:=eight (bO HF5.o.x (.int .i64 yk) (.int .i64 y1) (.int .i64 y2) (S y3) (S yt) (S yn) (.int .i64 yo) (.slice ysv ya.length ycv));exact bodyPost_ret (v:=EV yk (y1,y2,y3) yt yn yo (.slice ysv ya.length ycv)) (by simp[results,results332,go_sem,q0,q1,q2,q3,q4,q5,q6,q7]) rfl (HF5.o.fin hbl hgl HS5.o HA5.o HR5.o)
theorem c0m{f:Nat}(IH:∀f',f'<=f->c1c f'){W:World}{bs g cap k d:Nat}{ts:List Tok}(h:iV W bs g cap ts k)(hT:lC ts)(hd:d<=60)
  (hne:((dW ts f (.rd (1+1) k d)).bind fun k1 x=>dW ts f (.lp 1 k1 d x))≠ .o):
  eg 333 #[RV bs,.int .i64 (d:Int)] W (gT bs g cap ts W ((dW ts f (.rd (1+1) k d)).bind fun k1 x=>dW ts f (.lp 1 k1 d x))):=by
 have H:=aB h;have HI:=aB IH;have HT:=aB hT;obtain⟨R,HR0⟩:∃R,Hid (R=(dW ts f (.rd (1+1) k d)).bind fun k1 x=>dW ts f (.lp 1 k1 d x)):=⟨_,rfl⟩
 rw[<-HR0.o] at hne⊢;have HNE:=aB hne;have hbl:=h.lt';have hgl:=h.gl;have HF0:=aB (FrP.start W bs);have HB0:=aB (((Bl.refl W).alloc (.cells #[.pointer (some ⟨bs,0,none⟩)] 320)).alloc (.cells #[.int .i64 0,.int .i64 0,.int .i64 0,S [],S [],S [],.int .i64 0,.slice none 0 0] 38));clear h IH hT hne;go_enter func333,ntmps333;go_wp2_with fail;refine(bM (fun B=>B.heap[W.heap.size]?=some (.cells #[.pointer (some ⟨bs,0,none⟩)] 320 (0,0))) ((.take 0 (.take 1 (.two 2 4 (.take 3 (.one 4 (.one 5 (.one 6 .done)))) (.one 2 (.take 3 (.one 5 (.one 6 .done)))))))) af af af (fun c a d v w h=>by cases d<;>exact h) ((HF0.o.bl ((Bl.refl _).drew)).r) ?_);intro wd HWD hY;iterate 2 (refine cT ?_)
 refine sZ ?_ ?_
 focus
  refine aL rfl (fun K hK=>?_);go_simp;((with_reducible refine(jK _).mono ?_);rintro e w2 ⟨rfl,hb2⟩;have HB2:=aB hb2;have HF2:Hid (FrP W w2 bs):=cM;have HW2:Hid (Bl W w2):=cN;have hz2:=HF2.o.size;clear hb2);go_wp2_with fail;refine hK.o _ _ (ax) ?_;clear hY hK K;intro hY;refine cT ?_;refine aL rfl (fun K hK=>?_);go_simp;refine hK.o _ _ (cL) ?_;clear hY hK K;intro hY;refine aL rfl (fun K hK=>?_);go_simp;(refine(kI HI.o (n:=1) cQ HT.o hd aE _ rfl [13] rfl _ (by first |exact jU w2 aE [13] _ _ rfl _ _ _ rfl aa|exact(jU wd cU [13] _ _ rfl _ _ _ rfl aa).bl HB2.o) br).mono ?_;rw[<-HR0.o];intro e w5 hp;obtain⟨hg5,k5,hs5,hcase⟩:=hp.open;clear hp;have HF5:=aB (show FrP W w5 bs from by first |exact(HF2.o.bl ((Bl.refl _).alloc _)).next hbl hg5|exact HF2.o.next hbl hg5);have HS5:=aB hs5;rcases hcase with⟨yk,y1,y2,y3,yt,yn,yo,ya,ysv,ycv,hr5,hA,rfl⟩|⟨c,hc,hr5,rfl⟩;rotate_left;(· go_wp2;exact⟨rfl,gT.no HF5.o.grown HS5.o hc bc⟩);have HR5:=aB hr5;have HA5:=aB (show bG (fun b=>W.heap.size+2<=b) w5 (.slice ysv ya.length ycv) ya from hA.of fun b _ (hb:_<=b)=>by(try simp at hb);omega);clear hg5 hs5 hr5 hA);go_wp2_with fail;refine hK.o _ _ (ax) ?_;clear hY hK K;intro hY;obtain⟨⟨e0,e1,e2,e3,e4,e5,e6,e7⟩,f0,f1,f3,f4,f5,f6,f7,f8⟩:=eight HF5.o.x;refine aL rfl (fun K hK=>?_);go_simp;refine hK.o _ _ (((bP _ (b:=W.heap.size+1) aE _ _ _ _ _ _ _ _).trans HF5.o.r)) ?_;clear hY hK K;intro hY;clear e0 e1 e2 e3 e4 e5 e6 e7 f0 f1 f3 f4 f5 f6 f7 f8;refine fO ?_;go_wp2;obtain⟨⟨q0,q1,q2,q3,q4,q5,q6,q7⟩,-⟩:=eight (bO HF5.o.x (.int .i64 yk) (.int .i64 y1) (.int .i64 y2) (S y3) (S yt) (S yn) (.int .i64 yo) (.slice ysv ya.length ycv));exact bodyPost_ret (v:=EV yk (y1,y2,y3) yt yn yo (.slice ysv ya.length ycv)) (by simp[results,results333,go_sem,q0,q1,q2,q3,q4,q5,q6,q7]) rfl (HF5.o.fin hbl hgl HS5.o HA5.o HR5.o)
 rotate_left 1
 focus
  refine aL rfl (fun K hK=>?_);go_simp;refine hK.o _ _ (cL) ?_;clear hY hK K;intro hY;refine aL rfl (fun K hK=>?_);go_simp;((with_reducible refine(jK _).mono ?_);rintro e w2 ⟨rfl,hb2⟩;have HB2:=aB hb2;have HF2:Hid (FrP W w2 bs):=cM;have HW2:Hid (Bl W w2):=cN;have hz2:=HF2.o.size;clear hb2);go_wp2_with fail;refine hK.o _ _ (ax) ?_;clear hY hK K;intro hY;refine cT ?_;refine aL rfl (fun K hK=>?_);go_simp;(refine(kI HI.o (n:=1) cQ HT.o hd aE _ rfl [13] rfl _ (by first |exact jU w2 aE [13] _ _ rfl _ _ _ rfl aa|exact(jU wd cU [13] _ _ rfl _ _ _ rfl aa).bl HB2.o) br).mono ?_;rw[<-HR0.o];intro e w5 hp;obtain⟨hg5,k5,hs5,hcase⟩:=hp.open;clear hp;have HF5:=aB (show FrP W w5 bs from by first |exact(HF2.o.bl ((Bl.refl _).alloc _)).next hbl hg5|exact HF2.o.next hbl hg5);have HS5:=aB hs5;rcases hcase with⟨yk,y1,y2,y3,yt,yn,yo,ya,ysv,ycv,hr5,hA,rfl⟩|⟨c,hc,hr5,rfl⟩;rotate_left;(· go_wp2;exact⟨rfl,gT.no HF5.o.grown HS5.o hc bc⟩);have HR5:=aB hr5;have HA5:=aB (show bG (fun b=>W.heap.size+2<=b) w5 (.slice ysv ya.length ycv) ya from hA.of fun b _ (hb:_<=b)=>by(try simp at hb);omega);clear hg5 hs5 hr5 hA);go_wp2_with fail;refine hK.o _ _ (ax) ?_;clear hY hK K;intro hY;obtain⟨⟨e0,e1,e2,e3,e4,e5,e6,e7⟩,f0,f1,f3,f4,f5,f6,f7,f8⟩:=eight HF5.o.x;refine aL rfl (fun K hK=>?_);go_simp;refine hK.o _ _ (((bP _ (b:=W.heap.size+1) aE _ _ _ _ _ _ _ _).trans HF5.o.r)) ?_;clear hY hK K;intro hY;clear e0 e1 e2 e3 e4 e5 e6 e7 f0 f1 f3 f4 f5 f6 f7 f8;refine fO ?_;go_wp2;obtain⟨⟨q0,q1,q2,q3,q4,q5,q6,q7⟩,-⟩:=eight (bO HF5.o.x (.int .i64 yk) (.int .i64 y1) (.int .i64 y2) (S y3) (S yt) (S yn) (.int .i64 yo) (.slice ysv ya.length ycv));exact bodyPost_ret (v:=EV yk (y1,y2,y3) yt yn yo (.slice ysv ya.length ycv)) (by simp[results,results333,go_sem,q0,q1,q2,q3,q4,q5,q6,q7]) rfl (HF5.o.fin hbl hgl HS5.o HA5.o HR5.o)
theorem c0l{f:Nat}(IH:∀f',f'<=f->c1c f'){W:World}{bs g cap k d:Nat}{ts:List Tok}(h:iV W bs g cap ts k)(hT:lC ts)(hd:d<=60)
  (hne:((dW ts f (.rd (4+1) k d)).bind fun k1 x=>dW ts f (.lp 4 k1 d x))≠ .o):
  eg 336 #[RV bs,.int .i64 (d:Int)] W (gT bs g cap ts W ((dW ts f (.rd (4+1) k d)).bind fun k1 x=>dW ts f (.lp 4 k1 d x))):=by
 have H:=aB h;have HI:=aB IH;have HT:=aB hT;obtain⟨R,HR0⟩:∃R,Hid (R=(dW ts f (.rd (4+1) k d)).bind fun k1 x=>dW ts f (.lp 4 k1 d x)):=⟨_,rfl⟩
 rw[<-HR0.o] at hne⊢;have HNE:=aB hne;have hbl:=h.lt';have hgl:=h.gl;have HF0:=aB (FrP.start W bs);have HB0:=aB (((Bl.refl W).alloc (.cells #[.pointer (some ⟨bs,0,none⟩)] 320)).alloc (.cells #[.int .i64 0,.int .i64 0,.int .i64 0,S [],S [],S [],.int .i64 0,.slice none 0 0] 38));clear h IH hT hne;go_enter func336,ntmps336;go_wp2_with fail;refine(bM (fun B=>B.heap[W.heap.size]?=some (.cells #[.pointer (some ⟨bs,0,none⟩)] 320 (0,0))) ((.take 0 (.take 1 (.two 2 4 (.take 3 (.one 4 (.one 5 (.one 6 .done)))) (.one 2 (.take 3 (.one 5 (.one 6 .done)))))))) af af af (fun c a d v w h=>by cases d<;>exact h) ((HF0.o.bl ((Bl.refl _).drew)).r) ?_);intro wd HWD hY;iterate 2 (refine cT ?_)
 refine sZ ?_ ?_
 focus
  refine aL rfl (fun K hK=>?_);go_simp;((with_reducible refine(jK _).mono ?_);rintro e w2 ⟨rfl,hb2⟩;have HB2:=aB hb2;have HF2:Hid (FrP W w2 bs):=cM;have HW2:Hid (Bl W w2):=cN;have hz2:=HF2.o.size;clear hb2);go_wp2_with fail;refine hK.o _ _ (ax) ?_;clear hY hK K;intro hY;refine cT ?_;refine aL rfl (fun K hK=>?_);go_simp;refine hK.o _ _ (cL) ?_;clear hY hK K;intro hY;refine aL rfl (fun K hK=>?_);go_simp;(refine(kI HI.o (n:=4) cQ HT.o hd aE _ rfl [6] rfl _ (by first |exact jU w2 aE [6] _ _ rfl _ _ _ rfl aa|exact(jU wd cU [6] _ _ rfl _ _ _ rfl aa).bl HB2.o) br).mono ?_;rw[<-HR0.o];intro e w5 hp;obtain⟨hg5,k5,hs5,hcase⟩:=hp.open;clear hp;have HF5:=aB (show FrP W w5 bs from by first |exact(HF2.o.bl ((Bl.refl _).alloc _)).next hbl hg5|exact HF2.o.next hbl hg5);have HS5:=aB hs5;rcases hcase with⟨yk,y1,y2,y3,yt,yn,yo,ya,ysv,ycv,hr5,hA,rfl⟩|⟨c,hc,hr5,rfl⟩;rotate_left;(· go_wp2;exact⟨rfl,gT.no HF5.o.grown HS5.o hc bc⟩);have HR5:=aB hr5;have HA5:=aB (show bG (fun b=>W.heap.size+2<=b) w5 (.slice ysv ya.length ycv) ya from hA.of fun b _ (hb:_<=b)=>by(try simp at hb);omega);clear hg5 hs5 hr5 hA);go_wp2_with fail;refine hK.o _ _ (ax) ?_;clear hY hK K;intro hY;obtain⟨⟨e0,e1,e2,e3,e4,e5,e6,e7⟩,f0,f1,f3,f4,f5,f6,f7,f8⟩:=eight HF5.o.x;refine aL rfl (fun K hK=>?_);go_simp;refine hK.o _ _ (((bP _ (b:=W.heap.size+1) aE _ _ _ _ _ _ _ _).trans HF5.o.r)) ?_;clear hY hK K;intro hY;clear e0 e1 e2 e3 e4 e5 e6 e7 f0 f1 f3 f4 f5 f6 f7 f8;refine fO ?_;go_wp2;obtain⟨⟨q0,q1,q2,q3,q4,q5,q6,q7⟩,-⟩:=eight (bO HF5.o.x (.int .i64 yk) (.int .i64 y1) (.int .i64 y2) (S y3) (S yt) (S yn) (.int .i64 yo) (.slice ysv ya.length ycv));exact bodyPost_ret (v:=EV yk (y1,y2,y3) yt yn yo (.slice ysv ya.length ycv)) (by simp[results,results336,go_sem,q0,q1,q2,q3,q4,q5,q6,q7]) rfl (HF5.o.fin hbl hgl HS5.o HA5.o HR5.o)
 rotate_left 1
 focus
  refine aL rfl (fun K hK=>?_);go_simp;refine hK.o _ _ (cL) ?_;clear hY hK K;intro hY;refine aL rfl (fun K hK=>?_);go_simp;((with_reducible refine(jK _).mono ?_);rintro e w2 ⟨rfl,hb2⟩;have HB2:=aB hb2;have HF2:Hid (FrP W w2 bs):=cM;have HW2:Hid (Bl W w2):=cN;have hz2:=HF2.o.size;clear hb2);go_wp2_with fail;refine hK.o _ _ (ax) ?_;clear hY hK K;intro hY;refine cT ?_;refine aL rfl (fun K hK=>?_);go_simp;(refine(kI HI.o (n:=4) cQ HT.o hd aE _ rfl [6] rfl _ (by first |exact jU w2 aE [6] _ _ rfl _ _ _ rfl aa|exact(jU wd cU [6] _ _ rfl _ _ _ rfl aa).bl HB2.o) br).mono ?_;rw[<-HR0.o];intro e w5 hp;obtain⟨hg5,k5,hs5,hcase⟩:=hp.open;clear hp;have HF5:=aB (show FrP W w5 bs from by first |exact(HF2.o.bl ((Bl.refl _).alloc _)).next hbl hg5|exact HF2.o.next hbl hg5);have HS5:=aB hs5;rcases hcase with⟨yk,y1,y2,y3,yt,yn,yo,ya,ysv,ycv,hr5,hA,rfl⟩|⟨c,hc,hr5,rfl⟩;rotate_left;(· go_wp2;exact⟨rfl,gT.no HF5.o.grown HS5.o hc bc⟩);have HR5:=aB hr5;have HA5:=aB (show bG (fun b=>W.heap.size+2<=b) w5 (.slice ysv ya.length ycv) ya from hA.of fun b _ (hb:_<=b)=>by(try simp at hb);omega);clear hg5 hs5 hr5 hA);go_wp2_with fail;refine hK.o _ _ (ax) ?_;clear hY hK K;intro hY;obtain⟨⟨e0,e1,e2,e3,e4,e5,e6,e7⟩,f0,f1,f3,f4,f5,f6,f7,f8⟩:=eight HF5.o.x;refine aL rfl (fun K hK=>?_);go_simp;refine hK.o _ _ (((bP _ (b:=W.heap.size+1) aE _ _ _ _ _ _ _ _).trans HF5.o.r)) ?_;clear hY hK K;intro hY;clear e0 e1 e2 e3 e4 e5 e6 e7 f0 f1 f3 f4 f5 f6 f7 f8;refine fO ?_;go_wp2;obtain⟨⟨q0,q1,q2,q3,q4,q5,q6,q7⟩,-⟩:=eight (bO HF5.o.x (.int .i64 yk) (.int .i64 y1) (.int .i64 y2) (S y3) (S yt) (S yn) (.int .i64 yo) (.slice ysv ya.length ycv));exact bodyPost_ret (v:=EV yk (y1,y2,y3) yt yn yo (.slice ysv ya.length ycv)) (by simp[results,results336,go_sem,q0,q1,q2,q3,q4,q5,q6,q7]) rfl (HF5.o.fin hbl hgl HS5.o HA5.o HR5.o)
theorem c0d{f:Nat}(IH:∀f',f'<=f->c1c f'){W:World}{bs g cap k d:Nat}{ts:List Tok}(h:iV W bs g cap ts k)(hT:lC ts)(hd:d<=60)
  (hne:((dW ts f (.rd (5+1) k d)).bind fun k1 x=>dW ts f (.lp 5 k1 d x))≠ .o):
  eg 337 #[RV bs,.int .i64 (d:Int)] W (gT bs g cap ts W ((dW ts f (.rd (5+1) k d)).bind fun k1 x=>dW ts f (.lp 5 k1 d x))):=by
 have H:=aB h;have HI:=aB IH;have HT:=aB hT;obtain⟨R,HR0⟩:∃R,Hid (R=(dW ts f (.rd (5+1) k d)).bind fun k1 x=>dW ts f (.lp 5 k1 d x)):=⟨_,rfl⟩
 rw[<-HR0.o] at hne⊢;have HNE:=aB hne;have hbl:=h.lt';have hgl:=h.gl;have HF0:=aB (FrP.start W bs);have HB0:=aB (((Bl.refl W).alloc (.cells #[.pointer (some ⟨bs,0,none⟩)] 320)).alloc (.cells #[.int .i64 0,.int .i64 0,.int .i64 0,S [],S [],S [],.int .i64 0,.slice none 0 0] 38));clear h IH hT hne;go_enter func337,ntmps337;go_wp2_with fail;refine(kI HI.o (n:=5) (H.o.bl (HB0.o.alloc _)) HT.o hd aE _ rfl [1,2] rfl _ (jU _ ak [1,2] _ _ rfl _ _ _ rfl aa) br).mono ?_;rw[<-HR0.o];intro e w5 hp;obtain⟨hg5,k5,hs5,hcase⟩:=hp.open;clear hp;have HF5:=aB ((HF0.o.bl ((Bl.refl _).alloc _)).next hbl hg5);have HS5:=aB hs5;rcases hcase with⟨yk,y1,y2,y3,yt,yn,yo,ya,ysv,ycv,hr5,hA,rfl⟩|⟨c,hc,hr5,rfl⟩
 ·have HR5:=aB hr5;have HA5:=aB (show bG (fun b=>W.heap.size+2<=b) w5 (.slice ysv ya.length ycv) ya from hA.of fun b _ (hb:_<=b)=>by(try simp at hb);omega);obtain⟨⟨e0,e1,e2,e3,e4,e5,e6,e7⟩,f0,f1,f3,f4,f5,f6,f7,f8⟩:=eight HF5.o.x;clear hg5 hs5 hr5 hA;go_wp2;obtain⟨⟨q0,q1,q2,q3,q4,q5,q6,q7⟩,-⟩:=eight (bO (HF5.o).x (.int .i64 yk) (.int .i64 y1) (.int .i64 y2) (S y3) (S yt) (S yn) (.int .i64 yo) (.slice ysv ya.length ycv));refine bodyPost_ret (v:= .agg #[.int .i64 yk,.int .i64 y1,.int .i64 y2,S y3,S yt,S yn,.int .i64 yo,.slice ysv ya.length ycv]) (by simp[results,results337,go_sem,q0,q1,q2,q3,q4,q5,q6,q7]) rfl ?_;exact HF5.o.fin hbl hgl HS5.o HA5.o HR5.o
 ·clear hg5 hs5;go_wp2;exact⟨rfl,gT.no HF5.o.grown HS5.o hc bc⟩
theorem a6e{f:Nat}(IH:∀f',f'<=f->c1c f'){W:World}{bs g cap k d:Nat}{ts:List Tok}(h:iV W bs g cap ts k)(hT:lC ts)(hd:d<=60)
  (hne:((dW ts f (.rd (6+1) k d)).bind fun k1 x=>dW ts f (.lp 6 k1 d x))≠ .o):
  eg 359 #[RV bs,.int .i64 (d:Int)] W (gT bs g cap ts W ((dW ts f (.rd (6+1) k d)).bind fun k1 x=>dW ts f (.lp 6 k1 d x))):=by
 have H:=aB h;have HI:=aB IH;have HT:=aB hT;obtain⟨R,HR0⟩:∃R,Hid (R=(dW ts f (.rd (6+1) k d)).bind fun k1 x=>dW ts f (.lp 6 k1 d x)):=⟨_,rfl⟩
 rw[<-HR0.o] at hne⊢;have HNE:=aB hne;have hbl:=h.lt';have hgl:=h.gl;have HF0:=aB (FrP.start W bs);have HB0:=aB (((Bl.refl W).alloc (.cells #[.pointer (some ⟨bs,0,none⟩)] 320)).alloc (.cells #[.int .i64 0,.int .i64 0,.int .i64 0,S [],S [],S [],.int .i64 0,.slice none 0 0] 38));clear h IH hT hne;go_enter func359,ntmps359;go_wp2_with fail;refine(kI HI.o (n:=6) (H.o.bl (HB0.o.alloc _)) HT.o hd aE _ rfl [3,4,5] rfl _ (jU _ ak [3,4,5] _ _ rfl _ _ _ rfl aa) br).mono ?_;rw[<-HR0.o];intro e w5 hp;obtain⟨hg5,k5,hs5,hcase⟩:=hp.open;clear hp;have HF5:=aB ((HF0.o.bl ((Bl.refl _).alloc _)).next hbl hg5);have HS5:=aB hs5;rcases hcase with⟨yk,y1,y2,y3,yt,yn,yo,ya,ysv,ycv,hr5,hA,rfl⟩|⟨c,hc,hr5,rfl⟩
 ·have HR5:=aB hr5;have HA5:=aB (show bG (fun b=>W.heap.size+2<=b) w5 (.slice ysv ya.length ycv) ya from hA.of fun b _ (hb:_<=b)=>by(try simp at hb);omega);obtain⟨⟨e0,e1,e2,e3,e4,e5,e6,e7⟩,f0,f1,f3,f4,f5,f6,f7,f8⟩:=eight HF5.o.x;clear hg5 hs5 hr5 hA;go_wp2;obtain⟨⟨q0,q1,q2,q3,q4,q5,q6,q7⟩,-⟩:=eight (bO (HF5.o).x (.int .i64 yk) (.int .i64 y1) (.int .i64 y2) (S y3) (S yt) (S yn) (.int .i64 yo) (.slice ysv ya.length ycv));refine bodyPost_ret (v:= .agg #[.int .i64 yk,.int .i64 y1,.int .i64 y2,S y3,S yt,S yn,.int .i64 yo,.slice ysv ya.length ycv]) (by simp[results,results359,go_sem,q0,q1,q2,q3,q4,q5,q6,q7]) rfl ?_;exact HF5.o.fin hbl hgl HS5.o HA5.o HR5.o
 ·clear hg5 hs5;go_wp2;exact⟨rfl,gT.no HF5.o.grown HS5.o hc bc⟩
end
section
theorem nO{f n:Nat}(hR:RdP f n){W:World}{bs g cap k d:Nat}{ts:List Tok}(h:iV W bs g cap ts k)(hT:lC ts)(hd:d<=60)(fn:FuncId)(hfn:fn=rdF n)(hne:fB d (dW ts f (.rd n k (d+1)))≠ .o):
  eg 357 #[RV bs,.int .i64 (d:Int),.func (.func fn) #[] #[]] W (gT bs g cap ts W (fB d (dW ts f (.rd n k (d+1))))):=by
 subst hfn;have hen:=rR n;have HR:=aB hR;clear hR;by_cases hlt:d<60
 ·have e1:fB d (dW ts f (.rd n k (d+1)))=dW ts f (.rd n k (d+1)):=if_pos hlt;rw[e1] at hne⊢;have HN:=aB hne;have hl:(d:Int)<60:=aE;have x1:IntKind.i64.wrap ((d:Int)+1)=(d:Int)+1:=gW _ aE;clear e1 hne;have H:=aB h;have HT:=aB hT;have hbl:=h.lt';have hgl:=h.gl;have HF0:=aB (FrP.start W bs);have HB0:=aB (((Bl.refl W).alloc (.cells #[.pointer (some ⟨bs,0,none⟩)] 320)).alloc (.cells #[.int .i64 0,.int .i64 0,.int .i64 0,S [],S [],S [],.int .i64 0,.slice none 0 0] 38));clear h hT;go_enter func357,ntmps357;go_wp2_with fail
  (with_reducible refine(qB _ _).mono ?_)
  rintro e w1 ⟨rfl,rfl⟩;go_wp2_with fail;refine(HR.o _ bs g cap ts k (d+1) _ aE (H.o.bl HB0.o) HT.o aE HN.o).mono ?_;intro e w5 hp;obtain⟨hg5,k5,hs5,hcase⟩:=hp.open;clear hp;have HF5:=aB (HF0.o.next hbl hg5);have HS5:=aB hs5;rcases hcase with⟨yk,y1,y2,y3,yt,yn,yo,ya,ysv,ycv,hr5,hA,rfl⟩|⟨c,hc,hr5,rfl⟩
  ·have HR5:=aB hr5;have HA5:=aB (show bG (fun b=>W.heap.size+2<=b) w5 (.slice ysv ya.length ycv) ya from hA.of fun b _ (hb:_<=b)=>by(try simp at hb);omega);obtain⟨⟨e0,e1,e2,e3,e4,e5,e6,e7⟩,f0,f1,f3,f4,f5,f6,f7,f8⟩:=eight HF5.o.x;clear hg5 hs5 hr5 hA x1;go_wp2;obtain⟨⟨q0,q1,q2,q3,q4,q5,q6,q7⟩,-⟩:=eight (bO (HF5.o).x (.int .i64 yk) (.int .i64 y1) (.int .i64 y2) (S y3) (S yt) (S yn) (.int .i64 yo) (.slice ysv ya.length ycv));refine bodyPost_ret (v:= .agg #[.int .i64 yk,.int .i64 y1,.int .i64 y2,S y3,S yt,S yn,.int .i64 yo,.slice ysv ya.length ycv]) (by simp[results,results357,go_sem,q0,q1,q2,q3,q4,q5,q6,q7]) rfl ?_;exact HF5.o.fin hbl hgl HS5.o HA5.o HR5.o
  ·clear hg5 hs5;go_wp2;exact⟨rfl,gT.no HF5.o.grown HS5.o hc bc⟩
 ·have e1:fB d (dW ts f (.rd n k (d+1)))= .bad 260:=if_neg hlt;rw[e1];have hl:¬(d:Int)<60:=aE;clear e1 hne;have H:=aB h;have HT:=aB hT;have hbl:=h.lt';have hgl:=h.gl;have HF0:=aB (FrP.start W bs);have HB0:=aB (((Bl.refl W).alloc (.cells #[.pointer (some ⟨bs,0,none⟩)] 320)).alloc (.cells #[.int .i64 0,.int .i64 0,.int .i64 0,S [],S [],S [],.int .i64 0,.slice none 0 0] 38));clear h hT;go_enter func357,ntmps357;go_wp2_with fail
  (with_reducible refine(rX _ _).mono ?_)
  rintro e w1 ⟨rfl,rfl⟩;go_wp2;exact⟨rfl,gT.no HF0.o.grown (H.o.bl HB0.o) (.inl rfl) rfl⟩
theorem c0k{f:Nat}(hR:RdP f 2){W:World}{bs g cap k k' d:Nat}{ts:List Tok}(h:iV W bs g cap ts k)(hT:lC ts)(hd:d<=60)(ht:bH ts k [rW]=some k')
  (hne:((fB d (dW ts f (.rd 2 k' (d+1)))).bind fun k2 y=> .good k2 (opE 16 [y]))≠ .o):
  eg 334 #[RV bs,.int .i64 (d:Int)] W (gT bs g cap ts W ((fB d (dW ts f (.rd 2 k' (d+1)))).bind fun k2 y=> .good k2 (opE 16 [y]))):=by
 have HTK:=aB ht;have HR:=aB hR;have HNE:=aB (lG hne);obtain⟨R,HR0⟩:∃R,Hid (R=fB d (dW ts f (.rd 2 k' (d+1)))):=⟨_,rfl⟩
 rw[<-HR0.o];clear hne ht hR;have H:=aB h;have HT:=aB hT;have hbl:=h.lt';have hgl:=h.gl;have HF0:=aB (FrP.start W bs);have HB0:=aB (((Bl.refl W).alloc (.cells #[.pointer (some ⟨bs,0,none⟩)] 320)).alloc (.cells #[.int .i64 0,.int .i64 0,.int .i64 0,S [],S [],S [],.int .i64 0,.slice none 0 0] 38));clear h hT;go_enter func334,ntmps334;go_wp2_with fail;refine(jD (H.o.bl HB0.o) [rW] HTK.o _ 1 _ _ rfl rfl aa aa).mono ?_;rintro e w1 ⟨rfl,hg1,hs1⟩;have HF1:=aB (HF0.o.next hbl hg1);have HS1:=aB hs1;have hz1:=HF1.o.size;have p0:=cK HF1.o.r;clear hg1 hs1;go_wp2_with fail;refine(nO HR.o HS1.o HT.o hd _ rfl HNE.o).mono ?_;rw[<-HR0.o];intro e w2 hp;obtain⟨hg2,k2,hs2,hcase⟩:=hp.open;clear hp p0;have HF2:=aB (HF1.o.next hbl hg2);have HS2:=aB hs2;have hz2:=HF2.o.size;rcases hcase with⟨yk,y1,y2,y3,yt,yn,yo,ya,ysv,ycv,hr2,hA,rfl⟩|⟨c,hc,hr2,rfl⟩
 ·have HR2:=aB hr2;have HA2:=aB (show bG (fun b=>W.heap.size+2<=b) w2 (.slice ysv ya.length ycv) ya from hA.of fun b _ (hb:_<=b)=>by omega);clear hg2 hs2 hr2 hA;go_wp2_with fail
  (with_reducible refine(vV 16 _ _ _ _).mono ?_)
  rintro e w3 ⟨rfl,hb3⟩;have HB3:=aB (((Bl.refl w2).alloc _).call hb3);have HF3:=aB (HF2.o.bl HB3.o);have HSL:=aB ((hb3.block w2.heap.size aa).trans (aV _ _ (k:=w2.heap.size) rfl));obtain⟨⟨e0,e1,e2,e3,e4,e5,e6,e7⟩,f0,f1,f3,f4,f5,f6,f7,f8⟩:=eight HF3.o.x;clear hb3;go_wp2;obtain⟨⟨q0,q1,q2,q3,q4,q5,q6,q7⟩,-⟩:=eight (bO (HF3.o).x (.int .i64 3) (.int .i64 0) (.int .i64 0) (S []) (S []) (S []) (.int .i64 16) (.slice (some ⟨w2.heap.size,0,none⟩) 1 1));refine bodyPost_ret (v:= .agg #[.int .i64 3,.int .i64 0,.int .i64 0,S [],S [],S [],.int .i64 16,.slice (some ⟨w2.heap.size,0,none⟩) 1 1]) (by simp[results,results334,go_sem,q0,q1,q2,q3,q4,q5,q6,q7]) rfl ?_;exact HF3.o.fin (ya:=[.mk yk (y1,y2,y3) yt yn yo ya]) hbl hgl (HS2.o.bl HB3.o) (a9z (p:=fun b=>W.heap.size+2<=b) 1 aE HSL.o (HA2.o.bl HB3.o)) (by rw[HR2.o];rfl)
 ·clear hg2 hs2;go_wp2;exact⟨rfl,gT.no HF2.o.grown HS2.o hc (by rw[hr2];rfl)⟩
theorem b6s{f:Nat}(hR:RdP f 7){W:World}{bs g cap k k' d:Nat}{ts:List Tok}(h:iV W bs g cap ts k)(hT:lC ts)(hd:d<=60)(ht:bH ts k [[45]]=some k')
  (hne:((fB d (dW ts f (.rd 7 k' (d+1)))).bind fun k2 y=> .good k2 (opE 15 [y]))≠ .o):
  eg 371 #[RV bs,.int .i64 (d:Int)] W (gT bs g cap ts W ((fB d (dW ts f (.rd 7 k' (d+1)))).bind fun k2 y=> .good k2 (opE 15 [y]))):=by
 have HTK:=aB ht;have HR:=aB hR;have HNE:=aB (lG hne);obtain⟨R,HR0⟩:∃R,Hid (R=fB d (dW ts f (.rd 7 k' (d+1)))):=⟨_,rfl⟩
 rw[<-HR0.o];clear hne ht hR;have H:=aB h;have HT:=aB hT;have hbl:=h.lt';have hgl:=h.gl;have HF0:=aB (FrP.start W bs);have HB0:=aB (((Bl.refl W).alloc (.cells #[.pointer (some ⟨bs,0,none⟩)] 320)).alloc (.cells #[.int .i64 0,.int .i64 0,.int .i64 0,S [],S [],S [],.int .i64 0,.slice none 0 0] 38));clear h hT;go_enter func371,ntmps371;go_wp2_with fail;refine(jD (H.o.bl HB0.o) [[45]] HTK.o _ 1 _ _ rfl rfl aa aa).mono ?_;rintro e w1 ⟨rfl,hg1,hs1⟩;have HF1:=aB (HF0.o.next hbl hg1);have HS1:=aB hs1;have hz1:=HF1.o.size;have p0:=cK HF1.o.r;clear hg1 hs1;go_wp2_with fail;refine(nO HR.o HS1.o HT.o hd _ rfl HNE.o).mono ?_;rw[<-HR0.o];intro e w2 hp;obtain⟨hg2,k2,hs2,hcase⟩:=hp.open;clear hp p0;have HF2:=aB (HF1.o.next hbl hg2);have HS2:=aB hs2;have hz2:=HF2.o.size;rcases hcase with⟨yk,y1,y2,y3,yt,yn,yo,ya,ysv,ycv,hr2,hA,rfl⟩|⟨c,hc,hr2,rfl⟩
 ·have HR2:=aB hr2;have HA2:=aB (show bG (fun b=>W.heap.size+2<=b) w2 (.slice ysv ya.length ycv) ya from hA.of fun b _ (hb:_<=b)=>by omega);clear hg2 hs2 hr2 hA;go_wp2_with fail
  (with_reducible refine(vV 15 _ _ _ _).mono ?_)
  rintro e w3 ⟨rfl,hb3⟩;have HB3:=aB (((Bl.refl w2).alloc _).call hb3);have HF3:=aB (HF2.o.bl HB3.o);have HSL:=aB ((hb3.block w2.heap.size aa).trans (aV _ _ (k:=w2.heap.size) rfl));obtain⟨⟨e0,e1,e2,e3,e4,e5,e6,e7⟩,f0,f1,f3,f4,f5,f6,f7,f8⟩:=eight HF3.o.x;clear hb3;go_wp2;obtain⟨⟨q0,q1,q2,q3,q4,q5,q6,q7⟩,-⟩:=eight (bO (HF3.o).x (.int .i64 3) (.int .i64 0) (.int .i64 0) (S []) (S []) (S []) (.int .i64 15) (.slice (some ⟨w2.heap.size,0,none⟩) 1 1));refine bodyPost_ret (v:= .agg #[.int .i64 3,.int .i64 0,.int .i64 0,S [],S [],S [],.int .i64 15,.slice (some ⟨w2.heap.size,0,none⟩) 1 1]) (by simp[results,results371,go_sem,q0,q1,q2,q3,q4,q5,q6,q7]) rfl ?_;exact HF3.o.fin (ya:=[.mk yk (y1,y2,y3) yt yn yo ya]) hbl hgl (HS2.o.bl HB3.o) (a9z (p:=fun b=>W.heap.size+2<=b) 1 aE HSL.o (HA2.o.bl HB3.o)) (by rw[HR2.o];rfl)
 ·clear hg2 hs2;go_wp2;exact⟨rfl,gT.no HF2.o.grown HS2.o hc (by rw[hr2];rfl)⟩
theorem c3s{f:Nat}(hR:RdP f 3){W:World}{bs g cap k d:Nat}{ts:List Tok}(h:iV W bs g cap ts k)(hT:lC ts)(hd:d<=60)(ht:bH ts k [rW]=none)(hne:dW ts f (.rd 3 k d)≠ .o):
  eg 334 #[RV bs,.int .i64 (d:Int)] W (gT bs g cap ts W (dW ts f (.rd 3 k d))):=by
 have HTK:=aB ht;have HR:=aB hR;have HNE:=aB hne;have hen:=rR 3;clear hne ht hR;have H:=aB h;have HT:=aB hT;have hbl:=h.lt';have hgl:=h.gl;have HF0:=aB (FrP.start W bs);have HB0:=aB (((Bl.refl W).alloc (.cells #[.pointer (some ⟨bs,0,none⟩)] 320)).alloc (.cells #[.int .i64 0,.int .i64 0,.int .i64 0,S [],S [],S [],.int .i64 0,.slice none 0 0] 38));clear h hT;go_enter func334,ntmps334;go_wp2_with fail;refine(kM (H.o.bl HB0.o) [rW] HTK.o _ 1 _ _ rfl rfl aa aa).mono ?_;rintro e w1 ⟨rfl,hg1,hs1⟩;have HF1:=aB (HF0.o.next hbl hg1);have HS1:=aB hs1;have hz1:=HF1.o.size;clear hg1 hs1;go_wp2_with fail;refine(bM (fun B=>B.heap[W.heap.size]?=some (.cells #[.pointer (some ⟨bs,0,none⟩)] 320 (0,0))) ((.take 2 (.take 3 (.one 0 (.take 1 (.one 4 (.one 5 .done))))))) af af af (fun c a d v w h=>by cases d<;>exact h) ((HF1.o.bl ((Bl.refl _).drew)).r) ?_);intro wd HWD hY;iterate 2 (refine cT ?_)
 refine aL rfl (fun K hK=>?_);go_simp;((with_reducible refine(jK _).mono ?_);rintro e w2 ⟨rfl,hb2⟩;have HB2:=aB (HWD.o.call hb2);have HF2:=aB (HF1.o.bl HB2.o);have hz2:=HF2.o.size;clear hb2);go_wp2_with fail;refine hK.o _ _ (ax) ?_;clear hY hK K;intro hY;refine cT ?_;refine aL rfl (fun K hK=>?_);go_simp;(refine(HR.o _ bs g cap ts k d _ rfl (HS1.o.bl HB2.o) HT.o hd HNE.o).mono ?_;intro e w5 hp;obtain⟨hg5,k5,hs5,hcase⟩:=hp.open;clear hp;have HF5:=aB (HF2.o.next hbl hg5);have HS5:=aB hs5;rcases hcase with⟨yk,y1,y2,y3,yt,yn,yo,ya,ysv,ycv,hr5,hA,rfl⟩|⟨c,hc,hr5,rfl⟩;rotate_left;(· go_wp2;exact⟨rfl,gT.no HF5.o.grown HS5.o hc bc⟩);have HR5:=aB hr5;have HA5:=aB (show bG (fun b=>W.heap.size+2<=b) w5 (.slice ysv ya.length ycv) ya from hA.of fun b _ (hb:_<=b)=>by omega);clear hg5 hs5 hr5 hA);go_wp2_with fail;refine hK.o _ _ (ax) ?_;clear hY hK K;intro hY;obtain⟨⟨e0,e1,e2,e3,e4,e5,e6,e7⟩,f0,f1,f3,f4,f5,f6,f7,f8⟩:=eight HF5.o.x;refine aL rfl (fun K hK=>?_);go_simp;refine hK.o _ _ (((bP _ (b:=W.heap.size+1) aE _ _ _ _ _ _ _ _).trans HF5.o.r)) ?_;clear hY hK K;intro hY;clear e0 e1 e2 e3 e4 e5 e6 e7 f0 f1 f3 f4 f5 f6 f7 f8;refine fO ?_;go_wp2;obtain⟨⟨q0,q1,q2,q3,q4,q5,q6,q7⟩,-⟩:=eight (bO HF5.o.x (.int .i64 yk) (.int .i64 y1) (.int .i64 y2) (S y3) (S yt) (S yn) (.int .i64 yo) (.slice ysv ya.length ycv));exact bodyPost_ret (v:=EV yk (y1,y2,y3) yt yn yo (.slice ysv ya.length ycv)) (by simp[results,results334,go_sem,q0,q1,q2,q3,q4,q5,q6,q7]) rfl (HF5.o.fin hbl hgl HS5.o HA5.o HR5.o)
def c7e(f:Nat):Prop:=∀(W:World) (bs g cap:Nat) (ts:List Tok) (k d:Nat),iV W bs g cap ts k->lC ts->d<=60->kV ts (dW ts f) k d≠ .o->
 eg 378 #[RV bs,.int .i64 (d:Int)] W (gT bs g cap ts W (kV ts (dW ts f) k d))
theorem c0e{f:Nat}(hR:c7e f){W:World}{bs g cap k d:Nat}{ts:List Tok}(h:iV W bs g cap ts k)(hT:lC ts)(hd:d<=60)(ht:bH ts k [[45]]=none)(hne:kV ts (dW ts f) k d≠ .o):
  eg 371 #[RV bs,.int .i64 (d:Int)] W (gT bs g cap ts W (kV ts (dW ts f) k d)):=by
 have HTK:=aB ht;have HR:=aB hR;have HNE:=aB hne;clear hne ht hR;have H:=aB h;have HT:=aB hT;have hbl:=h.lt';have hgl:=h.gl;have HF0:=aB (FrP.start W bs);have HB0:=aB (((Bl.refl W).alloc (.cells #[.pointer (some ⟨bs,0,none⟩)] 320)).alloc (.cells #[.int .i64 0,.int .i64 0,.int .i64 0,S [],S [],S [],.int .i64 0,.slice none 0 0] 38));clear h hT;go_enter func371,ntmps371;go_wp2_with fail;refine(kM (H.o.bl HB0.o) [[45]] HTK.o _ 1 _ _ rfl rfl aa aa).mono ?_;rintro e w1 ⟨rfl,hg1,hs1⟩;have HF1:=aB (HF0.o.next hbl hg1);have HS1:=aB hs1;have hz1:=HF1.o.size;have p0:=cK HF1.o.r;clear hg1 hs1;go_wp2_with fail;refine(HR.o _ bs g cap ts k d HS1.o HT.o hd HNE.o).mono ?_;intro e w5 hp;obtain⟨hg5,k5,hs5,hcase⟩:=hp.open;clear hp p0;have HF5:=aB (HF1.o.next hbl hg5);have HS5:=aB hs5;rcases hcase with⟨yk,y1,y2,y3,yt,yn,yo,ya,ysv,ycv,hr5,hA,rfl⟩|⟨c,hc,hr5,rfl⟩
 ·have HR5:=aB hr5;have HA5:=aB (show bG (fun b=>W.heap.size+2<=b) w5 (.slice ysv ya.length ycv) ya from hA.of fun b _ (hb:_<=b)=>by omega);obtain⟨⟨e0,e1,e2,e3,e4,e5,e6,e7⟩,f0,f1,f3,f4,f5,f6,f7,f8⟩:=eight HF5.o.x;clear hg5 hs5 hr5 hA;go_wp2;obtain⟨⟨q0,q1,q2,q3,q4,q5,q6,q7⟩,-⟩:=eight (bO (HF5.o).x (.int .i64 yk) (.int .i64 y1) (.int .i64 y2) (S y3) (S yt) (S yn) (.int .i64 yo) (.slice ysv ya.length ycv));refine bodyPost_ret (v:= .agg #[.int .i64 yk,.int .i64 y1,.int .i64 y2,S y3,S yt,S yn,.int .i64 yo,.slice ysv ya.length ycv]) (by simp[results,results371,go_sem,q0,q1,q2,q3,q4,q5,q6,q7]) rfl ?_;exact HF5.o.fin hbl hgl HS5.o HA5.o HR5.o
 ·clear hg5 hs5;go_wp2;exact⟨rfl,gT.no HF5.o.grown HS5.o hc bc⟩
end
section
theorem a3w{f:Nat}(hR:RdP f 4){W:World}{bs g cap k d:Nat}{ts:List Tok}(h:iV W bs g cap ts k)(hT:lC ts)(hd:d<=60)(hne:a4k ts (dW ts f) k d≠ .o):
  eg 335 #[RV bs,.int .i64 (d:Int)] W (gT bs g cap ts W (a4k ts (dW ts f) k d)):=by
 obtain⟨R,HR0⟩:∃R,Hid (R=a4k ts (dW ts f) k d):=⟨_,rfl⟩
 rw[<-HR0.o] at hne⊢;have HNE:=aB hne;have hne1:dW ts f (.rd 4 k d)≠ .o:=fun e=>HNE.o (by rw[HR0.o];unfold a4k;rw[e];rfl);have HN1:=aB hne1;have HR:=aB hR;clear hne hR hne1;have H:=aB h;have HT:=aB hT;have hbl:=h.lt';have hgl:=h.gl;have HF0:=aB (FrP.start W bs);have HB0:=aB (((Bl.refl W).alloc (.cells #[.pointer (some ⟨bs,0,none⟩)] 320)).alloc (.cells #[.int .i64 0,.int .i64 0,.int .i64 0,S [],S [],S [],.int .i64 0,.slice none 0 0] 38));clear h hT;go_enter func335,ntmps335;go_wp2_with fail;refine(HR.o _ bs g cap ts k d _ rfl (H.o.bl HB0.o) HT.o hd HN1.o).mono ?_;intro e w1 hp;obtain⟨hg1,k1,hs1,hcase⟩:=hp.open;clear hp;have HF1:=aB (HF0.o.next hbl hg1);have hz1:=HF1.o.size;rcases hcase with⟨yk,y1,y2,y3,yt,yn,yo,ya,ysv,ycv,hr1,hA,rfl⟩|⟨c,hc,hr1,rfl⟩
 ·have HA1:=aB (show bG (fun b=>W.heap.size+2<=b) w1 (.slice ysv ya.length ycv) ya from hA.of fun b _ (hb:_<=b)=>by(try simp at hb);omega);have hRf:R=match fI ts k1 (dZ 3) with
   |some (o,k2)=>(dW ts f (.rd 4 k2 d)).bind fun k3 y=> .good k3 (opE o [.mk yk (y1,y2,y3) yt yn yo ya,y])
   |none=>match bH ts k1 [sIs,gN] with
    |some k2=> .good k2 (opE 17 [.mk yk (y1,y2,y3) yt yn yo ya])
    |none=>match bH ts k1 [sIs,rW,gN] with
     |some k2=> .good k2 (opE 18 [.mk yk (y1,y2,y3) yt yn yo ya])
     |none=> .good k1 (.mk yk (y1,y2,y3) yt yn yo ya):=by
   rw[HR0.o];unfold a4k;rw[hr1];rfl
  have HS1:=aB hs1;have hk1:=hs1.lt;clear hg1 hs1 hA hr1;have p0:=cK HF1.o.r;have pz:W.heap.size<w1.heap.size:=aE;cases ht:fI ts k1 (dZ 3) with
  |some q=>
   obtain⟨o,k2⟩:=q;rw[ht] at hRf;have HRF:=aB hRf;have HTK:=aB ht;have HN2:=aB (lG (g:=fun k3 y=> .good k3 (opE o [.mk yk (y1,y2,y3) yt yn yo ya,y])) (show _ from by have:=HNE.o;rw[hRf] at this;exact this));clear hRf ht;go_wp2_with fail;refine(a2k (HS1.o.bl (((Bl.refl w1).alloc _).alloc _)) (jU (aY w1 _) am (dZ 3) _ _ rfl _ _ _ rfl (by rw[aR])) ae (fun o ho=>a0i (n:=3) ho) HTK.o).mono ?_;rintro e w2 ⟨rfl,hg2,hs2⟩;have HG2:=aB (dA (gI (((Bl.refl w1).alloc _).alloc _) (some bs)) hg2);have HX2:=aB ((hg2.block w1.heap.size ak (fun e=>by injection e with e;omega)).trans ((aW _ _ aa).trans (aN w1 _)));have HF2:=aB (HF1.o.next hbl HG2.o);have HA2:=aB (HA1.o.grown HG2.o (fun h=>by omega));have HS2:=aB hs2;have hz2:=HF2.o.size;have hzx:=(aC.1 HX2.o).1;clear hg2 hs2 p0;go_wp2_with fail;refine(bM (fun B=>B.heap[W.heap.size]?=some (.cells #[.pointer (some ⟨bs,0,none⟩)] 320 (0,0))/\B.heap[w1.heap.size]?=some (.cells #[.int .i64 yk,.int .i64 y1,.int .i64 y2,S y3,S yt,S yn,.int .i64 yo,.slice ysv ya.length ycv] 38 (0,0))) ((.take 0 (.take 1 (.take 2 (.take 3 (.one 4 (.one 5 (.one 6 (.one 7 .done))))))))) af af af (fun c a d v w h=>by cases d<;>exact h) (bK ⟨HF2.o.r,HX2.o⟩ ((Bl.refl _).drew)) ?_);intro wd HWD hY;iterate 4 (refine cT ?_)
   refine aL rfl (fun K hK=>?_);go_simp;(refine(HR.o _ bs g cap ts k2 d _ rfl (HS2.o.bl HWD.o) HT.o hd HN2.o).mono ?_;intro e w5 hp;obtain⟨hg5,k5,hs5,hcase⟩:=hp.open;clear hp;have HF5:=aB ((HF2.o.bl HWD.o).next hbl hg5);rcases hcase with⟨zk,z1,z2,z3,zt,zn,zo,za,zsv,zcv,hr5,hZ,rfl⟩|⟨c,hc,hr5,rfl⟩;rotate_left;(· go_wp2;exact⟨rfl,gT.no HF5.o.grown hs5 hc ed⟩);have hzd:=HWD.o.size;have HX5:=aB ((hg5.block _ aE (fun e=>by injection e with e;omega)).trans ((HWD.o.block _ aE).trans HX2.o));have HS5:=aB hs5;have HR5:=aB hr5;have HA5:=aB ((HA2.o.bl HWD.o).grown hg5 (fun h=>by omega));have hz5:=hg5.4;have HZ:=aB (show bG (fun b=>W.heap.size+2<=b) w5 (.slice zsv za.length zcv) za from hZ.of fun b hl (hb:_<=b)=>by omega);clear hg5 hs5 hr5 hZ);go_wp2_with fail;refine hK.o _ _ ((by first |exact⟨HF6.o.r,HX6.o⟩|exact⟨HF5.o.r,HX5.o⟩)) ?_;clear hY hK K;intro hY;refine aL rfl (fun K hK=>?_);go_simp;refine hK.o _ _ (⟨(HF5.o.bl ((Bl.refl _).alloc _)).r,(aW _ _ aE).trans HX5.o⟩) ?_;clear hY hK K;intro hY;refine aL rfl (fun K hK=>?_);go_simp;((with_reducible refine(vV o _ _ _ _).mono ?_);rintro e w6 ⟨rfl,hb6⟩;have HB6:=aB (((Bl.refl w5).alloc _).call hb6);have HSL:=aB ((hb6.block w5.heap.size aa).trans (aV _ _ (k:=w5.heap.size) rfl));have HF6:=aB (HF5.o.bl HB6.o);have HX6:=aB ((HB6.o.block _ aE).trans HX5.o);clear hb6);go_wp2_with fail;refine hK.o _ _ ((by first |exact⟨HF6.o.r,HX6.o⟩|exact⟨HF5.o.r,HX5.o⟩)) ?_;clear hY hK K;intro hY;obtain⟨⟨e0,e1,e2,e3,e4,e5,e6,e7⟩,f0,f1,f3,f4,f5,f6,f7,f8⟩:=eight HF6.o.x;refine aL rfl (fun K hK=>?_);go_simp;refine hK.o _ _ (⟨(bP _ (b:=W.heap.size+1) aE _ _ _ _ _ _ _ _).trans HF6.o.r,(bP _ (b:=W.heap.size+1) aE _ _ _ _ _ _ _ _).trans HX6.o⟩) ?_;clear hY hK K;intro hY;clear e0 e1 e2 e3 e4 e5 e6 e7 f0 f1 f3 f4 f5 f6 f7 f8;refine fO ?_;go_wp2;obtain⟨⟨q0,q1,q2,q3,q4,q5,q6,q7⟩,-⟩:=eight (bO (HF6.o).x (.int .i64 3) (.int .i64 0) (.int .i64 0) (S []) (S []) (S []) (.int .i64 o) (.slice (some ⟨w5.heap.size,0,none⟩) 2 2));refine bodyPost_ret (v:= .agg #[.int .i64 3,.int .i64 0,.int .i64 0,S [],S [],S [],.int .i64 o,.slice (some ⟨w5.heap.size,0,none⟩) 2 2]) dr rfl ?_;exact HF6.o.fin (ya:=[.mk yk (y1,y2,y3) yt yn yo ya,.mk zk (z1,z2,z3) zt zn zo za]) hbl hgl (HS5.o.bl HB6.o) (b8f (p:=fun b=>W.heap.size+2<=b) 2 aE HSL.o (HA5.o.bl HB6.o) (HZ.o.bl HB6.o)) (by rw[HRF.o];(try simp only);rw[HR5.o];rfl)
  |none=>
   rw[ht] at hRf;simp only at hRf;have HRf:=aB hRf;have HTK:=aB ht;clear ht hRf;go_wp2_with fail;refine(a6c (HS1.o.bl (((Bl.refl w1).alloc _).alloc _)) (jU (aY w1 _) am (dZ 3) _ _ rfl _ _ _ rfl (by rw[aR])) ae (fun o ho=>a0i (n:=3) ho) HTK.o).mono ?_;rintro e w2 ⟨rfl,hg2,hs2⟩;have HG2:=aB (dA (gI (((Bl.refl w1).alloc _).alloc _) (some bs)) hg2);have HX2:=aB ((hg2.block w1.heap.size ak (fun e=>by injection e with e;omega)).trans ((aW _ _ aa).trans (aN w1 _)));have HF2:=aB (HF1.o.next hbl HG2.o);have HA2:=aB (HA1.o.grown HG2.o (fun h=>by omega));have HS2:=aB hs2;have hzx:=(aC.1 HX2.o).1;clear hg2 hs2 p0;have p0:=cK HF2.o.r;cases ht1:bH ts k1 [sIs,gN] with
   |some k2=>
    have HRF:=aB (show R= .good k2 (opE 17 [.mk yk (y1,y2,y3) yt yn yo ya]) from by rw[HRf.o,ht1]);have HT1:=aB ht1;clear ht1;go_wp2_with fail;refine(jD HS2.o [sIs,gN] HT1.o _ 2 _ _ rfl rfl aa aa).mono ?_;rintro e w3 ⟨rfl,hg3,hs3⟩;have HX3:=aB ((hg3.block _ hzx (fun e=>by injection e with e;omega)).trans HX2.o);have HF3:=aB (HF2.o.next hbl hg3);have HA3:=aB (HA2.o.grown hg3 (fun h=>by omega));have HS3:=aB hs3;clear hg3 hs3 p0;obtain⟨⟨e0,e1,e2,e3,e4,e5,e6,e7⟩,-⟩:=eight (HX3).o;go_wp2_with fail
    (with_reducible refine(vV 17 _ _ _ _).mono ?_)
    rintro e w8 ⟨rfl,hb8⟩;have HB8:=aB (((Bl.refl w3).alloc _).call hb8);have HF8:=aB ((HF3).o.bl HB8.o);have HSL:=aB ((hb8.block (w3).heap.size aa).trans (aV _ _ (k:=(w3).heap.size) rfl));clear e0 e1 e2 e3 e4 e5 e6 e7;obtain⟨⟨e0,e1,e2,e3,e4,e5,e6,e7⟩,f0,f1,f3,f4,f5,f6,f7,f8⟩:=eight HF8.o.x;have hzw:=(HF3).o.size;clear hb8;go_wp2;obtain⟨⟨q0,q1,q2,q3,q4,q5,q6,q7⟩,-⟩:=eight (bO (HF8.o).x (.int .i64 3) (.int .i64 0) (.int .i64 0) (S []) (S []) (S []) (.int .i64 17) (.slice (some ⟨(w3).heap.size,0,none⟩) 1 1));refine bodyPost_ret (v:= .agg #[.int .i64 3,.int .i64 0,.int .i64 0,S [],S [],S [],.int .i64 17,.slice (some ⟨(w3).heap.size,0,none⟩) 1 1]) dr rfl ?_;exact HF8.o.fin (ya:=[.mk yk (y1,y2,y3) yt yn yo ya]) hbl hgl ((HS3).o.bl HB8.o) (a9z (p:=fun b=>W.heap.size+2<=b) 1 aE HSL.o ((HA3).o.bl HB8.o)) (HRF.o)
   |none=>
    have hRf2:R=match bH ts k1 [sIs,rW,gN] with
     |some k2=> .good k2 (opE 18 [.mk yk (y1,y2,y3) yt yn yo ya])
     |none=> .good k1 (.mk yk (y1,y2,y3) yt yn yo ya):=by rw[HRf.o,ht1]
    have HRf2:=aB hRf2;have HT1:=aB ht1;clear hRf2 ht1;go_wp2_with fail;refine(kM HS2.o [sIs,gN] HT1.o _ 2 _ _ rfl rfl aa aa).mono ?_;rintro e w3 ⟨rfl,hg3,hs3⟩;have HX3:=aB ((hg3.block _ hzx (fun e=>by injection e with e;omega)).trans HX2.o);have HF3:=aB (HF2.o.next hbl hg3);have HA3:=aB (HA2.o.grown hg3 (fun h=>by omega));have HS3:=aB hs3;have hzx3:=(aC.1 HX3.o).1;clear hg3 hs3 p0;have p0:=cK HF3.o.r;cases ht2:bH ts k1 [sIs,rW,gN] with
    |some k2=>
     have HRF:=aB (show R= .good k2 (opE 18 [.mk yk (y1,y2,y3) yt yn yo ya]) from by rw[HRf2.o];rw[ht2]);have HT2:=aB ht2;clear ht2;go_wp2_with fail;refine(jD HS3.o [sIs,rW,gN] HT2.o _ 3 _ _ rfl rfl aa aa).mono ?_;rintro e w4 ⟨rfl,hg4,hs4⟩;have HX4:=aB ((hg4.block _ hzx3 (fun e=>by injection e with e;omega)).trans HX3.o);have HF4:=aB (HF3.o.next hbl hg4);have HA4:=aB (HA3.o.grown hg4 (fun h=>by omega));have HS4:=aB hs4;clear hg4 hs4 p0;obtain⟨⟨e0,e1,e2,e3,e4,e5,e6,e7⟩,-⟩:=eight (HX4).o;go_wp2_with fail
     (with_reducible refine(vV 18 _ _ _ _).mono ?_)
     rintro e w8 ⟨rfl,hb8⟩;have HB8:=aB (((Bl.refl w4).alloc _).call hb8);have HF8:=aB ((HF4).o.bl HB8.o);have HSL:=aB ((hb8.block (w4).heap.size aa).trans (aV _ _ (k:=(w4).heap.size) rfl));clear e0 e1 e2 e3 e4 e5 e6 e7;obtain⟨⟨e0,e1,e2,e3,e4,e5,e6,e7⟩,f0,f1,f3,f4,f5,f6,f7,f8⟩:=eight HF8.o.x;have hzw:=(HF4).o.size;clear hb8;go_wp2;obtain⟨⟨q0,q1,q2,q3,q4,q5,q6,q7⟩,-⟩:=eight (bO (HF8.o).x (.int .i64 3) (.int .i64 0) (.int .i64 0) (S []) (S []) (S []) (.int .i64 18) (.slice (some ⟨(w4).heap.size,0,none⟩) 1 1));refine bodyPost_ret (v:= .agg #[.int .i64 3,.int .i64 0,.int .i64 0,S [],S [],S [],.int .i64 18,.slice (some ⟨(w4).heap.size,0,none⟩) 1 1]) dr rfl ?_;exact HF8.o.fin (ya:=[.mk yk (y1,y2,y3) yt yn yo ya]) hbl hgl ((HS4).o.bl HB8.o) (a9z (p:=fun b=>W.heap.size+2<=b) 1 aE HSL.o ((HA4).o.bl HB8.o)) (HRF.o)
    |none=>
     have HRF:=aB (show R= .good k1 (.mk yk (y1,y2,y3) yt yn yo ya) from by rw[HRf2.o];rw[ht2]);have HT2:=aB ht2;clear ht2;go_wp2_with fail;refine(kM HS3.o [sIs,rW,gN] HT2.o _ 3 _ _ rfl rfl aa aa).mono ?_;rintro e w4 ⟨rfl,hg4,hs4⟩;have HX4:=aB ((hg4.block _ hzx3 (fun e=>by injection e with e;omega)).trans HX3.o);have HF4:=aB (HF3.o.next hbl hg4);have HA4:=aB (HA3.o.grown hg4 (fun h=>by omega));have HS4:=aB hs4;clear hg4 hs4 p0;obtain⟨⟨e0,e1,e2,e3,e4,e5,e6,e7⟩,-⟩:=eight HX4.o;obtain⟨⟨i0,i1,i2,i3,i4,i5,i6,i7⟩,f0,f1,f3,f4,f5,f6,f7,f8⟩:=eight HF4.o.x;go_wp2;obtain⟨⟨q0,q1,q2,q3,q4,q5,q6,q7⟩,-⟩:=eight (bO (HF4.o).x (.int .i64 yk) (.int .i64 y1) (.int .i64 y2) (S y3) (S yt) (S yn) (.int .i64 yo) (.slice ysv ya.length ycv));refine bodyPost_ret (v:= .agg #[.int .i64 yk,.int .i64 y1,.int .i64 y2,S y3,S yt,S yn,.int .i64 yo,.slice ysv ya.length ycv]) dr rfl ?_;exact HF4.o.fin hbl hgl HS4.o HA4.o HRF.o
 ·clear hg1;go_wp2;exact⟨rfl,gT.no HF1.o.grown hs1 hc (by rw[HR0.o];unfold a4k;rw[hr1];rfl)⟩
end
section
def b8a(f:Nat):Prop:=∀(W:World) (bs g cap:Nat) (ts:List Tok) (nm:List UInt8) (k d:Nat),iV W bs g cap ts k->lC ts->d<=60->iW ts (dW ts f) nm k d≠ .o->
 eg 379 #[RV bs,S nm,.int .i64 (d:Int)] W (gT bs g cap ts W (iW ts (dW ts f) nm k d))
def a6h:List (List UInt8):=[kE,nW,gN]
theorem a8h{ts:List Tok}{k j:Nat}(hj:j<3):fZ ts k ([(kE,0),(nW,1),(gN,2)].drop j)=match bH ts k [a6h[j]'hj] with
  |some k'=>some (k',(j:Int))
  |none=>fZ ts k ([(kE,0),(nW,1),(gN,2)].drop (j+1)):=by
 match j,hj with
 |0,_=>rfl
 |1,_=>rfl
 |2,_=>rfl
theorem b7j{W:World}{b:Nat}{x0 x1 x2 x3 x4 x5:Value}{t:TypeId}(h:W.heap[b]?=some (.cells #[x0,x1,x2,x3,x4,x5] t (0,0))):W.cell? ⟨b,0,none⟩=some x0/\W.cell? ⟨b,3,none⟩=some x3/\W.cell? ⟨b,4,none⟩=some x4/\W.cell? ⟨b,5,none⟩=some x5:=
 ⟨by rw[aG h];rfl,by rw[aG h];rfl,by rw[aG h];rfl,by rw[aG h];rfl⟩
theorem b2u{f:Nat}(hR:RdP f 0)(hC:b8a f){W:World}{bs g cap k d:Nat}{ts:List Tok}(h:iV W bs g cap ts k)(hT:lC ts)(hd:d<=60)(hne:kV ts (dW ts f) k d≠ .o):
  eg 378 #[RV bs,.int .i64 (d:Int)] W (gT bs g cap ts W (kV ts (dW ts f) k d)):=by
 obtain⟨R,HR0⟩:∃R,Hid (R=kV ts (dW ts f) k d):=⟨_,rfl⟩
 rw[<-HR0.o] at hne⊢;have HNE:=aB hne;have HR:=aB hR;have HC:=aB hC;have hx:ts[k]?=some (ts[k]'h.lt):=aP h.lt;generalize ts[k]'h.lt=x at hx;have HX:=aB hx;clear hne hR hC hx;have H:=aB h;have HT:=aB hT;have hbl:=h.lt';have hgl:=h.gl;have HF0:=aB (FrP.start W bs);have HB0:=aB (((Bl.refl W).alloc (.cells #[.pointer (some ⟨bs,0,none⟩)] 320)).alloc (.cells #[.int .i64 0,.int .i64 0,.int .i64 0,S [],S [],S [],.int .i64 0,.slice none 0 0] 38));clear h hT;go_enter func378,ntmps378;go_wp2_with fail
 (with_reducible refine(rH (H.o.bl HB0.o) HX.o).mono ?_)
 rintro e w1 ⟨rfl,hb1⟩;have HF1:=aB (HF0.o.bl hb1);have HS1:=aB ((H.o.bl HB0.o).bl hb1);have hz1:=HF1.o.size;have p0:=cK HF1.o.r;have pz:W.heap.size<w1.heap.size:=aE;obtain⟨tk,tp,tt,ta,tb,tc⟩:=x;clear hb1;by_cases h2:tk=2
 ·subst h2;have HRF:=aB (show R= .good (fT ts.length k) (b3v (ta,tb,tc)) from by rw[HR0.o];unfold kV;rw[HX.o];rfl);have hT1:=aN w1 (.cells #[.int .i64 2,.int .i64 (tp:Int),S tt,.int .i64 ta,.int .i64 tb,S tc] 72);go_wp2_with fail
  (with_reducible refine(yY (HS1.o.bl ((Bl.refl w1).alloc _)) HX.o).mono ?_)
  rintro e w2 ⟨rfl,hg2,hs2⟩;have HF2:=aB ((HF1.o.bl ((Bl.refl w1).alloc _)).next hbl hg2);have HS2:=aB hs2;have hT2:=(hg2.block w1.heap.size aa (fun e=>by injection e with e;omega)).trans hT1;obtain⟨t0,t3,t4,t5⟩:=b7j hT2;obtain⟨⟨i0,i1,i2,i3,i4,i5,i6,i7⟩,f0,f1,f3,f4,f5,f6,f7,f8⟩:=eight HF2.o.x;clear hg2 hs2 p0 hT1;go_wp2;obtain⟨⟨q0,q1,q2,q3,q4,q5,q6,q7⟩,-⟩:=eight (bO (HF2.o).x (.int .i64 1) (.int .i64 ta) (.int .i64 tb) (S tc) (S []) (S []) (.int .i64 0) (.slice none 0 0));refine bodyPost_ret (v:= .agg #[.int .i64 1,.int .i64 ta,.int .i64 tb,S tc,S [],S [],.int .i64 0,.slice none 0 0]) cP rfl ?_;exact HF2.o.fin (ya:=[]) hbl hgl HS2.o (bG.nil _ _ _ _) HRF.o
 ·have hb2:(tk==2)=false:=by simpa using h2
  have hRf:R=match fZ ts k [(kE,0),(nW,1),(gN,2)] with
   |some (k',i)=> .good k' (b3v (ofK i,ofN i,[]))
   |none=>match bH ts k [[40]] with
    |some k'=>(fB d (dW ts f (.rd 0 k' (d+1)))).bind fun k2 y=>match bH ts k2 [[41]] with
     |some k3=> .good k3 y
     |none=> .bad 261
    |none=>match mM ts k with
     |none=> .bad 261
     |some (nm,k1)=>match bH ts k1 [[40]] with
      |some k2=>iW ts (dW ts f) nm k2 d
      |none=>match bH ts k1 [[46]] with
       |some k2=>match mM ts k2 with
        |none=> .bad 261
        |some (c,k3)=> .good k3 (b3w nm c)
       |none=> .good k1 (b3w [] nm):=by
   rw[HR0.o];unfold kV;rw[HX.o];simp only;rw[if_neg h2];rfl
  have HRF:=aB hRf;clear h2 hRf;have HS1':=aB (HS1.o.bl (((Bl.refl w1).alloc (.cells #[.int .i64 tk,.int .i64 (tp:Int),S tt,.int .i64 ta,.int .i64 tb,S tc] 72)).alloc (.cells #[S kE,S nW,S gN] 9)));have HF1':=aB (HF1.o.bl (((Bl.refl w1).alloc (.cells #[.int .i64 tk,.int .i64 (tp:Int),S tt,.int .i64 ta,.int .i64 tb,S tc] 72)).alloc (.cells #[S kE,S nW,S gN] 9)));go_wp2_with fail;go_loopw [27] (fun i wr=>∃j:Nat,j<=3/\i= .int .i64 (j:Int)/\Hid (FrP W wr bs)/\Hid (iV wr bs g cap ts k)/\Hid (wr.heap[w1.heap.size+1]?=some (.cells #[S kE,S nW,S gN] 9 (0,0)))/\
    Hid (fZ ts k [(kE,0),(nW,1),(gN,2)]=fZ ts k ([(kE,0),(nW,1),(gN,2)].drop j))) (fun i _=>3-(intOf i).toNat)
  case atStart=>exact⟨0,by omega,rfl,HF1'.o,HS1'.o,aV _ _ aa,rfl⟩
  case round=>
   clear HF1' HS1' p0;obtain⟨j,hj,rfl,HF,HS,HL,HK⟩:=hrel;have p0:=cK HF.o.r;by_cases hlt:j<3
   ·have HKj:=aB (a8h (ts:=ts) (k:=k) hlt);have c:wr.cell? ⟨w1.heap.size+1,j,none⟩=some (S (a6h[j]'hlt)):=by
     rw[aG HL.o]
     match j,hlt with
     |0,_=>rfl
     |1,_=>rfl
     |2,_=>rfl
    have hzl:=(aC.1 HL.o).1;generalize a6h[j]'hlt=s at *;have hlt':(j:Int)<3:=aE;cases ht:bH ts k [s] with
    |some k'=>
     have HRG:=aB (show R= .good k' (b3v (ofK (j:Int),ofN (j:Int),[])) from by rw[HRF.o,HK.o,HKj.o,ht]);have HTK:=aB ht;clear ht;go_wp2_with fail;refine(jD HS.o [s] HTK.o _ 1 _ _ rfl rfl aa aa).mono ?_;rintro e w2 ⟨rfl,hg2,hs2⟩;have HF2:=aB (HF.o.next hbl hg2);have HS2:=aB hs2;clear hg2 hs2 p0;go_wp2_with fail
     (with_reducible refine(c2m (j:Int) aE aE _).mono ?_)
     rintro e w3 ⟨rfl,hb3⟩;have HF3:=aB (HF2.o.bl hb3);have HS3:=aB (HS2.o.bl hb3);obtain⟨⟨i0,i1,i2,i3,i4,i5,i6,i7⟩,f0,f1,f3,f4,f5,f6,f7,f8⟩:=eight HF3.o.x;clear hb3;go_wp2;obtain⟨⟨q0,q1,q2,q3,q4,q5,q6,q7⟩,-⟩:=eight (bO (HF3.o).x (.int .i64 1) (.int .i64 (ofK (j:Int))) (.int .i64 (ofN (j:Int))) (S []) (S []) (S []) (.int .i64 0) (.slice none 0 0));refine bodyPost_ret (v:= .agg #[.int .i64 1,.int .i64 (ofK (j:Int)),.int .i64 (ofN (j:Int)),S [],S [],S [],.int .i64 0,.slice none 0 0]) cP rfl ?_;exact HF3.o.fin (ya:=[]) hbl hgl HS3.o (bG.nil _ _ _ _) HRG.o
    |none=>
     have HKK:=aB (show fZ ts k [(kE,0),(nW,1),(gN,2)]=fZ ts k ([(kE,0),(nW,1),(gN,2)].drop (j+1)) from by rw[HK.o,HKj.o,ht]);have HTK:=aB ht;clear ht;go_wp2_with fail;refine(kM HS.o [s] HTK.o _ 1 _ _ rfl rfl aa aa).mono ?_;rintro e w2 ⟨rfl,hg2,hs2⟩;have HF2:=aB (HF.o.next hbl hg2);have HS2:=aB hs2;have HL2:=aB ((hg2.block _ hzl (fun e=>by injection e with e;omega)).trans HL.o);clear hg2 hs2 p0;go_wp2;go_roundw
     case rel=>exact⟨j+1,by omega,by go_num,HF2.o,HS2.o,HL2.o,HKK.o⟩
     case measure=>simp[intOf];omega
   ·obtain rfl:j=3:=by omega
    have hK3:fZ ts k [(kE,0),(nW,1),(gN,2)]=none:=(by rw[HK.o];rfl);have hRf:=HRF.o;rw[hK3] at hRf;simp only at hRf;clear hK3 HK HL hlt;cases ht:bH ts k [[40]] with
    |some k'=>
     rw[ht] at hRf;have HRG:=aB hRf;have HTK:=aB ht;have HN2:=aB (lG (show _ from by have:=HNE.o;rw[hRf] at this;exact this));clear hRf ht;go_wp2_with fail;refine(jD HS.o [[40]] HTK.o _ 1 _ _ rfl rfl aa aa).mono ?_;rintro e w2 ⟨rfl,hg2,hs2⟩;have HF2:=aB (HF.o.next hbl hg2);have HS2:=aB hs2;clear hg2 hs2 p0;have p0:=cK HF2.o.r;go_wp2_with fail;refine(nO HR.o HS2.o HT.o hd _ rfl HN2.o).mono ?_;intro e w3 hp;obtain⟨hg3,k3,hs3,hcase⟩:=hp.open;clear hp p0;have HF3:=aB (HF2.o.next hbl hg3);have hz2:=HF2.o.size;have HS3:=aB hs3;rcases hcase with⟨yk,y1,y2,y3,yt,yn,yo,ya,ysv,ycv,hr3,hA,rfl⟩|⟨c,hc,hr3,rfl⟩
     ·have hR3:R=match bH ts k3 [[41]] with
       |some k4=> .good k4 (.mk yk (y1,y2,y3) yt yn yo ya)
       |none=> .bad 261:=by rw[HRG.o];(try simp only);rw[hr3];rfl
      have HA3:=aB (show bG (fun b=>W.heap.size+2<=b) w3 (.slice ysv ya.length ycv) ya from hA.of fun b _ (hb:_<=b)=>by omega);clear hg3 hs3 hr3 hA;have p0:=cK HF3.o.r;have HX3:=aB (aN w3 (.cells #[.int .i64 yk,.int .i64 y1,.int .i64 y2,S y3,S yt,S yn,.int .i64 yo,.slice ysv ya.length ycv] 38));have hz3:=HF3.o.size;have pz3:W.heap.size<w3.heap.size:=aE;cases ht2:bH ts k3 [[41]] with
      |some k4=>
       rw[ht2] at hR3;have HR4:=aB hR3;have HT2:=aB ht2;clear hR3 ht2;go_wp2_with fail;refine(jD (HS3.o.bl ((Bl.refl w3).alloc _)) [[41]] HT2.o _ 1 _ _ rfl rfl aa aa).mono ?_;rintro e w4 ⟨rfl,hg4,hs4⟩;have HF4:=aB ((HF3.o.bl ((Bl.refl w3).alloc _)).next hbl hg4);have HS4:=aB hs4;have HA4:=aB ((HA3.o.bl ((Bl.refl w3).alloc _)).grown hg4 (fun h=>by omega));have HX4:=aB ((hg4.block w3.heap.size aa (fun e=>by injection e with e;omega)).trans HX3.o);clear hg4 hs4 p0;go_wp2_with fail
       (with_reducible refine(qB _ _).mono ?_)
       rintro e w5 ⟨rfl,rfl⟩;obtain⟨⟨e0,e1,e2,e3,e4,e5,e6,e7⟩,-⟩:=eight HX4.o;obtain⟨⟨i0,i1,i2,i3,i4,i5,i6,i7⟩,f0,f1,f3,f4,f5,f6,f7,f8⟩:=eight HF4.o.x;go_wp2;obtain⟨⟨q0,q1,q2,q3,q4,q5,q6,q7⟩,-⟩:=eight (bO (HF4.o).x (.int .i64 yk) (.int .i64 y1) (.int .i64 y2) (S y3) (S yt) (S yn) (.int .i64 yo) (.slice ysv ya.length ycv));refine bodyPost_ret (v:= .agg #[.int .i64 yk,.int .i64 y1,.int .i64 y2,S y3,S yt,S yn,.int .i64 yo,.slice ysv ya.length ycv]) cP rfl ?_;exact HF4.o.fin hbl hgl HS4.o HA4.o HR4.o
      |none=>
       rw[ht2] at hR3;have HR4:=aB hR3;have HT2:=aB ht2;clear hR3 ht2;go_wp2_with fail;refine(kM (HS3.o.bl ((Bl.refl w3).alloc _)) [[41]] HT2.o _ 1 _ _ rfl rfl aa aa).mono ?_;rintro e w4 ⟨rfl,hg4,hs4⟩;have HF4:=aB ((HF3.o.bl ((Bl.refl w3).alloc _)).next hbl hg4);have HS4:=aB hs4;clear hg4 hs4 p0;go_wp2_with fail
       (with_reducible refine(rX _ _).mono ?_)
       rintro e w5 ⟨rfl,rfl⟩;go_wp2;exact⟨rfl,gT.no HF4.o.grown HS4.o (.inr rfl) HR4.o⟩
     ·have HR4:=aB (show R= .bad c from by rw[HRG.o];(try simp only);rw[hr3];rfl);clear hg3 hs3 hr3;go_wp2;exact⟨rfl,gT.no HF3.o.grown HS3.o hc HR4.o⟩
    |none=>
     rw[ht] at hRf;simp only at hRf;have HTK:=aB ht;clear ht;cases hn:mM ts k with
     |none=>
      rw[hn] at hRf;have HRG:=aB hRf;have HN:=aB hn;clear hRf hn;go_wp2_with fail;refine(kM HS.o [[40]] HTK.o _ 1 _ _ rfl rfl aa aa).mono ?_;rintro e w2 ⟨rfl,hg2,hs2⟩;have HF2:=aB (HF.o.next hbl hg2);have HS2:=aB hs2;clear hg2 hs2 p0;have p0:=cK HF2.o.r;go_wp2_with fail
      (with_reducible refine(a8a HS2.o HN.o).mono ?_)
      rintro e w3 ⟨rfl,hg3,hs3⟩;have HF3:=aB (HF2.o.next hbl hg3);have HS3:=aB hs3;clear hg3 hs3 p0;go_wp2_with fail
      (with_reducible refine(rX _ _).mono ?_)
      rintro e w5 ⟨rfl,rfl⟩;go_wp2;exact⟨rfl,gT.no HF3.o.grown HS3.o (.inr rfl) HRG.o⟩
     |some q=>
      obtain⟨nm,k1⟩:=q;rw[hn] at hRf;simp only at hRf;have HRf:=aB hRf;have HN:=aB hn;clear hn hRf;go_wp2_with fail;refine(kM HS.o [[40]] HTK.o _ 1 _ _ rfl rfl aa aa).mono ?_;rintro e w2 ⟨rfl,hg2,hs2⟩;have HF2:=aB (HF.o.next hbl hg2);have HS2:=aB hs2;clear hg2 hs2 p0;have p0:=cK HF2.o.r;go_wp2_with fail
      (with_reducible refine(a3p HS2.o HN.o).mono ?_)
      rintro e w3 ⟨rfl,hg3,hs3⟩;have HF3:=aB (HF2.o.next hbl hg3);have HS3:=aB hs3;clear hg3 hs3 p0;have p0:=cK HF3.o.r;go_wp2_with fail
      (with_reducible refine(qB _ _).mono ?_)
      rintro e w5 ⟨rfl,rfl⟩;cases ht1:bH ts k1 [[40]] with
      |some k2=>
       have hRf:=HRf.o;rw[ht1] at hRf;have HRG:=aB hRf;have HT1:=aB ht1;clear hRf ht1;go_wp2_with fail;refine(jD HS3.o [[40]] HT1.o _ 1 _ _ rfl rfl aa aa).mono ?_;rintro e w4 ⟨rfl,hg4,hs4⟩;have HF4:=aB (HF3.o.next hbl hg4);have HS4:=aB hs4;have hz4:=HF4.o.size;clear hg4 hs4 p0;have p0:=cK HF4.o.r;go_wp2_with fail;refine(HC.o _ bs g cap ts nm k2 d HS4.o HT.o hd (by have:=HNE.o;rw[HRG.o] at this;exact this)).mono ?_;rw[<-HRG.o];intro e w6 hp;obtain⟨hg6,k6,hs6,hcase⟩:=hp.open;clear hp p0;have HF6:=aB (HF4.o.next hbl hg6);have HS6:=aB hs6;rcases hcase with⟨yk,y1,y2,y3,yt,yn,yo,ya,ysv,ycv,hr6,hA,rfl⟩|⟨c,hc,hr6,rfl⟩
       ·have HR6:=aB hr6;have HA6:=aB (show bG (fun b=>W.heap.size+2<=b) w6 (.slice ysv ya.length ycv) ya from hA.of fun b _ (hb:_<=b)=>by omega);obtain⟨⟨e0,e1,e2,e3,e4,e5,e6,e7⟩,f0,f1,f3,f4,f5,f6,f7,f8⟩:=eight HF6.o.x;clear hg6 hs6 hr6 hA;go_wp2;obtain⟨⟨q0,q1,q2,q3,q4,q5,q6,q7⟩,-⟩:=eight (bO (HF6.o).x (.int .i64 yk) (.int .i64 y1) (.int .i64 y2) (S y3) (S yt) (S yn) (.int .i64 yo) (.slice ysv ya.length ycv));refine bodyPost_ret (v:= .agg #[.int .i64 yk,.int .i64 y1,.int .i64 y2,S y3,S yt,S yn,.int .i64 yo,.slice ysv ya.length ycv]) cP rfl ?_;exact HF6.o.fin hbl hgl HS6.o HA6.o HR6.o
       ·have HR6:=aB hr6;clear hg6 hs6 hr6;go_wp2;exact⟨rfl,gT.no HF6.o.grown HS6.o hc HR6.o⟩
      |none=>
       have hRf:=HRf.o;clear HRf;rw[ht1] at hRf;simp only at hRf;have HRf:=aB hRf;have HT1:=aB ht1;clear ht1 hRf;go_wp2_with fail;refine(kM HS3.o [[40]] HT1.o _ 1 _ _ rfl rfl aa aa).mono ?_;rintro e w4 ⟨rfl,hg4,hs4⟩;have HF4:=aB (HF3.o.next hbl hg4);have HS4:=aB hs4;clear hg4 hs4 p0;have p0:=cK HF4.o.r;cases ht2:bH ts k1 [[46]] with
       |some k2=>
        have hRf:=HRf.o;clear HRf;rw[ht2] at hRf;simp only at hRf;have HRf:=aB hRf;have HT2:=aB ht2;clear ht2 hRf;go_wp2_with fail;refine(jD HS4.o [[46]] HT2.o _ 1 _ _ rfl rfl aa aa).mono ?_;rintro e w6 ⟨rfl,hg6,hs6⟩;have HF6:=aB (HF4.o.next hbl hg6);have HS6:=aB hs6;clear hg6 hs6 p0;have p0:=cK HF6.o.r;cases hn2:mM ts k2 with
        |none=>
         have hRf:=HRf.o;rw[hn2] at hRf;have HRG:=aB hRf;have HN2:=aB hn2;clear hRf hn2;go_wp2_with fail
         (with_reducible refine(a8a HS6.o HN2.o).mono ?_)
         rintro e w7 ⟨rfl,hg7,hs7⟩;have HF7:=aB (HF6.o.next hbl hg7);have HS7:=aB hs7;clear hg7 hs7 p0;go_wp2_with fail
         (with_reducible refine(rX _ _).mono ?_)
         rintro e w8 ⟨rfl,rfl⟩;go_wp2;exact⟨rfl,gT.no HF7.o.grown HS7.o (.inr rfl) HRG.o⟩
        |some q=>
         obtain⟨cn,k3⟩:=q;have hRf:=HRf.o;rw[hn2] at hRf;have HRG:=aB hRf;have HN2:=aB hn2;clear hRf hn2;go_wp2_with fail
         (with_reducible refine(a3p HS6.o HN2.o).mono ?_)
         rintro e w7 ⟨rfl,hg7,hs7⟩;have HF7:=aB (HF6.o.next hbl hg7);have HS7:=aB hs7;clear hg7 hs7 p0;go_wp2_with fail
         (with_reducible refine(qB _ _).mono ?_)
         rintro e w8 ⟨rfl,rfl⟩;obtain⟨⟨e0,e1,e2,e3,e4,e5,e6,e7⟩,f0,f1,f3,f4,f5,f6,f7,f8⟩:=eight HF7.o.x;go_wp2;obtain⟨⟨q0,q1,q2,q3,q4,q5,q6,q7⟩,-⟩:=eight (bO (HF7.o).x (.int .i64 2) (.int .i64 0) (.int .i64 0) (S []) (S nm) (S cn) (.int .i64 0) (.slice none 0 0));refine bodyPost_ret (v:= .agg #[.int .i64 2,.int .i64 0,.int .i64 0,S [],S nm,S cn,.int .i64 0,.slice none 0 0]) cP rfl ?_;exact HF7.o.fin (ya:=[]) hbl hgl HS7.o (bG.nil _ _ _ _) HRG.o
       |none=>
        have hRf:=HRf.o;rw[ht2] at hRf;have HRG:=aB hRf;have HT2:=aB ht2;clear hRf ht2;go_wp2_with fail;refine(kM HS4.o [[46]] HT2.o _ 1 _ _ rfl rfl aa aa).mono ?_;rintro e w6 ⟨rfl,hg6,hs6⟩;have HF6:=aB (HF4.o.next hbl hg6);have HS6:=aB hs6;clear hg6 hs6 p0;obtain⟨⟨e0,e1,e2,e3,e4,e5,e6,e7⟩,f0,f1,f3,f4,f5,f6,f7,f8⟩:=eight HF6.o.x;go_wp2;obtain⟨⟨q0,q1,q2,q3,q4,q5,q6,q7⟩,-⟩:=eight (bO (HF6.o).x (.int .i64 2) (.int .i64 0) (.int .i64 0) (S []) (S []) (S nm) (.int .i64 0) (.slice none 0 0));refine bodyPost_ret (v:= .agg #[.int .i64 2,.int .i64 0,.int .i64 0,S [],S [],S nm,.int .i64 0,.slice none 0 0]) cP rfl ?_;exact HF6.o.fin (ya:=[]) hbl hgl HS6.o (bG.nil _ _ _ _) HRG.o
end
end Go.Proofs.YtohlomdapelgeaaGreatDoor
