/- Texts MY QB QD QE QF QG QL QR QJ. -/
import Derived.Test.YtohlomdapelgeaaGreatDoorCC
import Derived.Test.YtohlomdapelgeaaGreatDoorCD
import Derived.Laws.CopyRow
import Derived.Deep.CutBlock
namespace Go.Proofs.YtohlomdapelgeaaGreatDoor
open _root_.Go.Proofs.Tryz
open Go.RowKit
open _root_.Go.Act renaming put->aK
open _root_.Go.Addr renaming add->dY
open _root_.And renaming intro->bT
open _root_.Array renaming getElem?_eq_some_iff->aC,getElem?_modify->dC,getElem?_toList->oL,replicate->kD
open _root_.Go.RowKit.Below renaming grown->iL
open _root_.Bool renaming and_eq_true->aQ,eq_iff_iff->kC
open _root_.Go.Lib renaming cell_of_heap->aG,frozen_of_heap->aJ,hid->aB
open _root_.List renaming all_eq_true->jA,eq_nil_of_length_eq_zero->lM,length_append->bD,length_map->mD,length_nil->bL,map_append->kW,map_cons->kP,map_nil->qZ,mem_append->iX,mem_of_getElem?->dJ,mem_singleton->gQ,nil_append->cB,take_of_length_le->jS
open _root_.Nat renaming le_refl->aH,le_trans->jH,zero_add->gD,zero_le->dL
open NoPanic renaming normal->bF
open _root_.Option renaming bind_some->bU,map_some->lX
open _root_.Go.Region renaming noSelect->jZ
open _root_.Go.Value renaming ownBlock->iB
open _root_.Go.World renaming ownsRow_nil->d2l,setCell->dX,size_alloc->aR,size_setCell->oN
set_option maxRecDepth 100000
set_option maxHeartbeats 8000000
section
theorem lN{w:World}{b:Nat}{cs:Array Value}{t:TypeId}(h:w.heap[b]?=some (.cells cs t (0,0)))(o:Nat)(v:Value):(w.setCell ⟨b,o,none⟩ v).heap[b]?=some (.cells (cs.setIfInBounds o v) t (0,0)):=by
 simp[dX,dC,h]
def a4e(k:Int)(v:Int×Int×List UInt8)(t n:List UInt8)(o:Int)(sv:Value):Value:=
 if k=1 then EV 1 v [] [] 0 (.slice none 0 0) else if k=2 then EV 2 (0,0,[]) t n 0 (.slice none 0 0) else if k=3 then EV 3 (0,0,[]) [] [] o sv else if k=5 then EV 5 (0,0,[]) [] n 0 sv else EV k (0,0,[]) [] [] 0 sv
theorem rT(k v1 v2 o:Int)(v3 t n:List UInt8)(a:Option Addr)(m c:Nat)(w:World):eg 258 #[EV k (v1,v2,v3) t n o (.slice a m c)] w fun e w'=>e= .returned (a4e k (v1,v2,v3) t n o (.slice a m c))/\Bl w w':=by
 by_cases h1:k=1
 ·subst h1;have hB:Hid (a4e 1 (v1,v2,v3) t n o (.slice a m c)=EV 1 (v1,v2,v3) [] [] 0 (.slice none 0 0)):=rfl;go_enter func258,ntmps258;go_wp2;exact bodyPost_ret (v:=EV 1 (v1,v2,v3) [] [] 0 (.slice none 0 0)) dz rfl ⟨by rw[hB.o],(((Bl.refl w).alloc _).alloc _).alloc _⟩
 by_cases h3:k=3
 ·subst h3;have hB:Hid (a4e 3 (v1,v2,v3) t n o (.slice a m c)=EV 3 (0,0,[]) [] [] o (.slice a m c)):=rfl;go_enter func258,ntmps258;go_wp2;exact bodyPost_ret (v:=EV 3 (0,0,[]) [] [] o (.slice a m c)) dz rfl ⟨by rw[hB.o],(((Bl.refl w).alloc _).alloc _).alloc _⟩
 by_cases h5:k=5
 ·subst h5;have hB:Hid (a4e 5 (v1,v2,v3) t n o (.slice a m c)=EV 5 (0,0,[]) [] n 0 (.slice a m c)):=rfl;go_enter func258,ntmps258;go_wp2;exact bodyPost_ret (v:=EV 5 (0,0,[]) [] n 0 (.slice a m c)) dz rfl ⟨by rw[hB.o],(((Bl.refl w).alloc _).alloc _).alloc _⟩
 by_cases h2:k=2
 ·subst h2;have hB:Hid (a4e 2 (v1,v2,v3) t n o (.slice a m c)=EV 2 (0,0,[]) t n 0 (.slice none 0 0)):=rfl;have hx0:=uA w (.cells #[.int .i64 2,.int .i64 v1,.int .i64 v2,S v3,S t,S n,.int .i64 o,.slice a m c] 38) (.cells #[.int .i64 0,.int .i64 0,.int .i64 0,S [],S [],S [],.int .i64 0,.slice none 0 0] 38) (.cells #[.int .i64 2,.int .i64 0,.int .i64 0,S [],S [],S [],.int .i64 0,.slice a m c] 38);have hr0:=oZ w (.cells #[.int .i64 2,.int .i64 v1,.int .i64 v2,S v3,S t,S n,.int .i64 o,.slice a m c] 38) (.cells #[.int .i64 0,.int .i64 0,.int .i64 0,S [],S [],S [],.int .i64 0,.slice none 0 0] 38) (.cells #[.int .i64 2,.int .i64 0,.int .i64 0,S [],S [],S [],.int .i64 0,.slice a m c] 38);have hu0:=aV ((w.alloc (.cells #[.int .i64 2,.int .i64 v1,.int .i64 v2,S v3,S t,S n,.int .i64 o,.slice a m c] 38)).alloc (.cells #[.int .i64 0,.int .i64 0,.int .i64 0,S [],S [],S [],.int .i64 0,.slice none 0 0] 38)) (.cells #[.int .i64 2,.int .i64 0,.int .i64 0,S [],S [],S [],.int .i64 0,.slice a m c] 38) (k:=w.heap.size+1+1) aa;have HH:=aB (bT hx0 (bT hr0 (bT hu0 ((((Bl.refl w).alloc (.cells #[.int .i64 2,.int .i64 v1,.int .i64 v2,S v3,S t,S n,.int .i64 o,.slice a m c] 38)).alloc (.cells #[.int .i64 0,.int .i64 0,.int .i64 0,S [],S [],S [],.int .i64 0,.slice none 0 0] 38)).alloc (.cells #[.int .i64 2,.int .i64 0,.int .i64 0,S [],S [],S [],.int .i64 0,.slice a m c] 38)))));clear hx0 hr0 hu0 h1 h3 h5;go_enter func258,ntmps258;go_wp2_with fail;refine wp_region_noPanic (bM (fun B=>B.heap[w.heap.size]?=some (.cells #[.int .i64 2,.int .i64 v1,.int .i64 v2,S v3,S t,S n,.int .i64 o,.slice a m c] 38 (0,0))) ((.take 0 (.take 1 (.take 2 (.take 3 (.take 4 (.one 5 (.take 6 (.one 7 (.take 8 (.one 9 .done))))))))))) af af af (fun _ _ _ _ _ h=>h) (HH.o.1) ?_);intro wd HWD hY;iterate 5 (refine cT ?_)
  have HR1:=aB ((HWD.o.block _ aa).trans HH.o.2.1);have HU1:=aB ((HWD.o.block _ aa).trans HH.o.2.2.1);have HBW:=aB (HH.o.2.2.2.call HWD.o);obtain⟨⟨u0,u1,u2,u3,u4,u5,u6,u7⟩,g0,g1,g2,g3,g4,g5,g6,g7⟩:=eight HU1.o;refine aL rfl (fun K hK=>?_);go_simp;refine hK.o _ _ (((aM _ ⟨w.heap.size+1+1,4,none⟩ _ _ eS).trans hY)) ?_;clear hY hK K;intro hY;refine cT ?_;clear u0 u1 u2 u3 u4 u5 u6 u7 g0 g1 g2 g3 g4 g5 g6 g7;have HU2:Hid ((wd.setCell ⟨w.heap.size+1+1,4,none⟩ (S t)).heap[w.heap.size+1+1]?=some (.cells #[.int .i64 2,.int .i64 0,.int .i64 0,S [],S t,S [],.int .i64 0,.slice a m c] 38 (0,0))):=lN HU1.o 4 _;obtain⟨⟨u0,u1,u2,u3,u4,u5,u6,u7⟩,g0,g1,g2,g3,g4,g5,g6,g7⟩:=eight HU2.o;refine aL rfl (fun K hK=>?_);go_simp;refine hK.o _ _ (((aM _ ⟨w.heap.size+1+1,5,none⟩ _ _ eS).trans hY)) ?_;clear hY hK K;intro hY;refine cT ?_;clear u0 u1 u2 u3 u4 u5 u6 u7 g0 g1 g2 g3 g4 g5 g6 g7;have HU3:Hid (((wd.setCell ⟨w.heap.size+1+1,4,none⟩ (S t)).setCell ⟨w.heap.size+1+1,5,none⟩ (S n)).heap[w.heap.size+1+1]?=some (.cells #[.int .i64 2,.int .i64 0,.int .i64 0,S [],S t,S n,.int .i64 0,.slice a m c] 38 (0,0))):=lN HU2.o 5 _;obtain⟨⟨u0,u1,u2,u3,u4,u5,u6,u7⟩,g0,g1,g2,g3,g4,g5,g6,g7⟩:=eight HU3.o;refine aL rfl (fun K hK=>?_);go_simp;refine hK.o _ _ (((aM _ ⟨w.heap.size+1+1,7,none⟩ _ _ eS).trans hY)) ?_;clear hY hK K;intro hY;refine fO (bF ?_);clear u0 u1 u2 u3 u4 u5 u6 u7 g0 g1 g2 g3 g4 g5 g6 g7;have HU4:Hid ((((wd.setCell ⟨w.heap.size+1+1,4,none⟩ (S t)).setCell ⟨w.heap.size+1+1,5,none⟩ (S n)).setCell ⟨w.heap.size+1+1,7,none⟩ (.slice none 0 0)).heap[w.heap.size+1+1]?=some (.cells #[.int .i64 2,.int .i64 0,.int .i64 0,S [],S t,S n,.int .i64 0,.slice none 0 0] 38 (0,0))):=lN HU3.o 7 _;have HR4:=aB ((aM _ ⟨w.heap.size+1+1,7,none⟩ (.slice none 0 0) (w.heap.size+1) eN).trans ((aM _ ⟨w.heap.size+1+1,5,none⟩ (S n) (w.heap.size+1) eN).trans ((aM _ ⟨w.heap.size+1+1,4,none⟩ (S t) (w.heap.size+1) eN).trans HR1.o)));have HB4:=aB (((HBW.o.set (p:=⟨w.heap.size+1+1,4,none⟩) eR (S t)).set (p:=⟨w.heap.size+1+1,5,none⟩) eR (S n)).set (p:=⟨w.heap.size+1+1,7,none⟩) eR (.slice none 0 0));clear hY;generalize ((wd.setCell ⟨w.heap.size+1+1,4,none⟩ (S t)).setCell ⟨w.heap.size+1+1,5,none⟩ (S n)).setCell ⟨w.heap.size+1+1,7,none⟩ (.slice none 0 0)=w9 at *;obtain⟨⟨u0,u1,u2,u3,u4,u5,u6,u7⟩,-⟩:=eight HU4.o;obtain⟨⟨r0,r1,r2,r3,r4,r5,r6,r7⟩,f0,f1,f2,f3,f4,f5,f6,f7⟩:=eight HR4.o;go_wp2;obtain⟨⟨q0,q1,q2,q3,q4,q5,q6,q7⟩,-⟩:=eight (bO HR4.o (.int .i64 2) (.int .i64 0) (.int .i64 0) (S []) (S t) (S n) (.int .i64 0) (.slice none 0 0));exact bodyPost_ret (v:=EV 2 (0,0,[]) t n 0 (.slice none 0 0)) (by simp[results,results258,go_sem,q0,q1,q2,q3,q4,q5,q6,q7]) rfl ⟨by rw[hB.o],qY HB4.o aE _ _ _ _ _ _ _ _⟩
 have hB:Hid (a4e k (v1,v2,v3) t n o (.slice a m c)=EV k (0,0,[]) [] [] 0 (.slice a m c)):=by
  show _=_;unfold a4e;rw[if_neg h1,if_neg h2,if_neg h3,if_neg h5]
 have b1:(k==1)=false:=cC;have b2:(k==2)=false:=cH;have b3:(k==3)=false:=ck;have b5:(k==5)=false:=(by simpa using h5);clear h1 h2 h3 h5;go_enter func258,ntmps258;go_wp2;exact bodyPost_ret (v:=EV k (0,0,[]) [] [] 0 (.slice a m c)) dz rfl ⟨by rw[hB.o],(((Bl.refl w).alloc _).alloc _).alloc _⟩
end
section
def yV(nm:List UInt8):Int×Int×List UInt8:=if nm=qL then(3,19,[]) else if nm=b8b then(3,20,[]) else if nm=bZ then(4,0,[]) else(5,0,nm)
theorem c3y(nm:List UInt8)(l:List Ex):qO nm l= .mk (yV nm).1 (0,0,[]) [] (yV nm).2.2 (yV nm).2.1 l:=by
 unfold qO yV;by_cases h1:nm=qL
 ·rw[if_pos h1,if_pos h1];rfl
 rw[if_neg h1,if_neg h1];by_cases h2:nm=b8b
 ·rw[if_pos h2,if_pos h2];rfl
 rw[if_neg h2,if_neg h2];by_cases h3:nm=bZ
 ·rw[if_pos h3,if_pos h3]
 rw[if_neg h3,if_neg h3]
theorem b3e(nm:List UInt8):((yV nm).1==4)=decide (nm=bZ):=by
 unfold yV;by_cases h1:nm=qL
 ·rw[if_pos h1];subst h1;rfl
 rw[if_neg h1];by_cases h2:nm=b8b
 ·rw[if_pos h2];subst h2;rfl
 rw[if_neg h2];by_cases h3:nm=bZ
 ·rw[if_pos h3,decide_eq_true h3];rfl
 ·rw[if_neg h3,decide_eq_false h3];rfl
theorem FrP.set1{W A:World}{bs b:Nat}(h:FrP W A bs)(hb:W.heap.size+1<b)(o:Nat)(v:Value):FrP W (A.setCell ⟨b,o,none⟩ v) bs:=
 ⟨dP h.grown o aE v,(aM _ ⟨b,o,none⟩ _ _ (by show W.heap.size≠b;omega)).trans h.r,(aM _ ⟨b,o,none⟩ _ _ (by show W.heap.size+1≠b;omega)).trans h.x⟩
theorem iV.set1{W:World}{bs g cap k b:Nat}{ts:List Tok}(h:iV W bs g cap ts k)(hb:bs≠b)(hg:g≠b)(o:Nat)(v:Value):iV (W.setCell ⟨b,o,none⟩ v) bs g cap ts k:=
 h.keep (aM _ ⟨b,o,none⟩ _ _ hb) (aM _ ⟨b,o,none⟩ _ _ hg)
theorem FrP.own{W A B:World}{bs:Nat}{r:Option Nat}(h:FrP W A bs)(hg:A.grownBy B r)(hr:∀j,r=some j->W.heap.size+2<=j):FrP W B bs:=
 have hz:=h.size
 ⟨⟨hg.1.trans h.grown.1,hg.2.trans h.grown.2,hg.3.trans h.grown.3,jH h.grown.4 hg.4,fun i hi hb=>(hg.block i aE (fun e=>by have:=hr i e.symm;omega)).trans (h.grown.block i hi hb)⟩,
  (hg.block _ aE (fun e=>by have:=hr _ e.symm;omega)).trans h.r,(hg.block _ aE (fun e=>by have:=hr _ e.symm;omega)).trans h.x⟩
theorem pO{A B:World}{base bs:Nat}{e:TypeId}{size n:Nat}{v:Value}{xs:List Value}(h:A.ownsRow base e size v n xs)(hg:A.grownBy B (some bs))(hb:bs<base):B.ownsRow base e size v n xs:=by
 refine⟨h.1,?_⟩;rcases h.2 with h0|⟨g,cap,cur,hv,hgb,hh,r⟩
 ·exact .inl h0
 ·exact .inr ⟨g,cap,cur,hv,hgb,(hg.block g (aC.1 hh).1 (fun e=>by injection e with e;omega)).trans hh,r⟩
theorem a3n{A:World}{base:Nat}{e:TypeId}{size n:Nat}{v:Value}{xs:List Value}(h:A.ownsRow base e size v n xs){b:Nat}(hb:b<base)(o:Nat)(y:Value):(A.setCell ⟨b,o,none⟩ y).ownsRow base e size v n xs:=by
 refine⟨h.1,?_⟩;rcases h.2 with h0|⟨g,cap,cur,hv,hgb,hh,r⟩
 ·exact .inl h0
 ·exact .inr ⟨g,cap,cur,hv,hgb,(aM _ ⟨b,o,none⟩ _ _ (by show g≠b;omega)).trans hh,r⟩
theorem b6a{W:World}{base b:Nat}{x:Ex}{a:Option Addr}{n c:Nat}(h:W.heap[b]?=some (.cells #[.int .i64 x.k,.int .i64 x.v.1,.int .i64 x.v.2.1,S x.v.2.2,S x.t,S x.n,.int .i64 x.o,.slice a n c] 38 (0,0)))(hb:base<=b):W.ownsRow base 38 8 (.slice (some ⟨b,0,none⟩) 1 1) 1 (a4j [(x,.slice a n c)]):=
 ⟨rfl,.inr ⟨b,1,_,rfl,hb,h,aH _,by unfold maxLen;omega,rfl,rfl⟩⟩
theorem kU(w:World):eg 263 #[] w fun e w'=>e= .returned (.slice (some ⟨w.heap.size,0,none⟩) 4 4)/\w'=w.alloc (.cells #[S gX,S c1m,S c1n,S c1o] 9):=by
 go_enter func263,ntmps263;go_wp2;go_ret;exact⟨rfl,rfl⟩
def c5u:List ByteArray:=gP.map fun x=>⟨x.toArray⟩
theorem a6o(x:List UInt8):Lib.containsS (c5u.take 4) ⟨x.toArray⟩=gP.contains x:=by
 have e:c5u.take 4=c5u:=jS (Nat.le_of_eq rfl);rw[kC,e,Lib.containsS_iff];unfold c5u;simp
theorem kN{W:World}{b:Nat}{t:TypeId}(h:W.heap[b]?=some (.cells #[S gX,S c1m,S c1n,S c1o] t (0,0)))(x:List UInt8):eg 262 #[.slice (some ⟨b,0,none⟩) 4 4,S x] W fun e w'=>e= .returned (.bool (gP.contains x))/\w'=W:=by
 have:=Tryz.slices_Contains_string b 0 4 4 c5u ⟨x.toArray⟩ W (Nat.le_of_eq rfl) aE (fun j hj=>by
  rw[aG h,gD]
  match j,hj with
  |0,_=>rfl
  |1,_=>rfl
  |2,_=>rfl
  |3,_=>rfl
  |j+4,hj=>exact absurd hj (by show ¬j+4<4;omega))
 rw[a6o] at this;exact this
def a8v(ts:List Tok)(run:Job->Res)(nm:List UInt8)(d k:Nat)(l:List Ex):Res:=match(if nm=bZ then bH ts k [[44]] else none) with
 |some k2=>run (.args nm k2 d l)
 |none=>match bH ts k [[41]] with
  |some k2=> .good k2 (qO nm l)
  |none=> .bad 261
theorem a6r(ts:List Tok)(run:Job->Res)(nm:List UInt8)(k d:Nat)(acc:List Ex):nI ts run (.args nm k d acc)=(fB d (run (.rd 0 k (d+1)))).bind fun k1 x=>a8v ts run nm d k1 (acc++[x]):=rfl
def c7d(ts:List Tok)(R:Res)(nm:List UInt8)(d f kk:Nat)(l:List Ex):Prop:=∃f',f'<=f/\R=a8v ts (dW ts f') nm d kk l
theorem vX{ts:List Tok}(hT:lC ts){f n k d:Nat}(hk:k<ts.length){k':Nat}{x:Ex}(h:fB d (dW ts f (.rd n k (d+1)))= .good k' x):k<k':=by
 unfold fB at h;split at h
 ·exact sI hT hk h
 ·cases h
theorem b9s{W:World}{base n:Nat}{e:TypeId}{size:Nat}{ag:Option Addr}{ac:Nat}{xs:List Value}(h:W.ownsRow base e size (.slice ag n ac) n xs)(hn:1<=n):∃g,ag=some ⟨g,0,none⟩/\base<=g:=by
 rcases h.2 with⟨h0,_⟩|⟨g,cap,cur,h0,hg,_⟩
 ·injection h0 with h1 h2 h3;omega
 ·injection h0 with h1 h2 h3;exact⟨g,h1,hg⟩
theorem a5p{W:World}{base:Nat}{l:List (Ex×Value)}{ag:Option Addr}{ac:Nat}{p:Nat->Prop}(h:W.ownsRow base 38 8 (.slice ag l.length ac) l.length (a4j l))(hn:1<=l.length)(hp:∀b,base<=b->p b)(hr:∀q∈l,bG p W q.2 q.1.args):bG p W (.slice ag (l.map (·.1)).length ac) (l.map (·.1)):=by
 obtain⟨g,rfl,hg⟩:=b9s h hn;rw[mD];exact c7f h (hp g hg) hr
theorem a8i{f:Nat}(IH:∀f',f'<=f->RdP f' 0):b8a f:=by
 intro W bs g cap ts nm k d h hT hd hne;obtain⟨R,HR0⟩:∃R,Hid (R=iW ts (dW ts f) nm k d):=⟨_,rfl⟩
 rw[<-HR0.o] at hne⊢;have HNE:=aB hne;have HI:=aB IH;have H:=aB h;have HT:=aB hT;have hbl:=h.lt';have hgl:=h.gl;obtain⟨kx,ox,nx,hH⟩:∃kx ox nx,yV nm=(kx,ox,nx):=⟨_,_,_,rfl⟩
 have HH:=aB hH;have HF0:=aB ((FrP.start W bs).bl ((Bl.refl _).alloc (.cells #[.int .i64 3,.int .i64 0,.int .i64 0,S [],S [],S [],.int .i64 0,.slice none 0 0] 38)));have HB0:=aB ((((Bl.refl W).alloc (.cells #[.pointer (some ⟨bs,0,none⟩)] 320)).alloc (.cells #[.int .i64 0,.int .i64 0,.int .i64 0,S [],S [],S [],.int .i64 0,.slice none 0 0] 38)).alloc (.cells #[.int .i64 3,.int .i64 0,.int .i64 0,S [],S [],S [],.int .i64 0,.slice none 0 0] 38));have hX0:=aV ((W.alloc (.cells #[.pointer (some ⟨bs,0,none⟩)] 320)).alloc (.cells #[.int .i64 0,.int .i64 0,.int .i64 0,S [],S [],S [],.int .i64 0,.slice none 0 0] 38)) (.cells #[.int .i64 3,.int .i64 0,.int .i64 0,S [],S [],S [],.int .i64 0,.slice none 0 0] 38) (k:=W.heap.size+1+1) aa;have HX0:=aB hX0;clear h IH hT hne hH hX0;by_cases hkn:tO nm=false
 ·have HRF:=aB (show R= .bad 261 from by rw[HR0.o];unfold iW;rw[if_pos hkn]);unfold tO at hkn;simp only[Bool.or_eq_false_iff,qL,b8b,bZ] at hkn;obtain⟨⟨⟨h1,h2⟩,h3⟩,h4⟩:=hkn;go_enter func379,ntmps379;go_wp2_with fail
  (with_reducible refine(kU _).mono ?_)
  rintro e w1 ⟨rfl,rfl⟩;go_wp2_with fail;refine(kN (aV _ _ aa) nm).mono ?_;rintro e w1 ⟨rfl,rfl⟩;rw[h4];go_wp2_with fail
  (with_reducible refine(rX _ _).mono ?_)
  rintro e w1 ⟨rfl,rfl⟩;go_wp2;exact⟨rfl,gT.no (HF0.o.bl ((Bl.refl _).alloc _)).grown ((H.o.bl HB0.o).bl ((Bl.refl _).alloc _)) (.inr rfl) HRF.o⟩
 replace hkn:tO nm=true:=by simpa using hkn
 have HKN:=aB hkn;have HRc:=aB (show R=if nm=gX then match bH ts k [[42],[41]] with
   |some k'=> .good k' (qO nm [])
   |none=>dW ts f (.args nm k d [])
  else dW ts f (.args nm k d []) from by rw[HR0.o];unfold iW;rw[if_neg (by rw[hkn];simp)];rfl)
 clear hkn;go_enter func379,ntmps379
 go_upto_block 0 with fail
 go_cut [] from 9 to 27 (fun wc=>FrP W wc bs/\iV wc bs g cap ts k/\wc.heap[W.heap.size+1+1]?=some (.cells #[.int .i64 kx,.int .i64 0,.int .i64 0,S [],S [],S nx,.int .i64 ox,.slice none 0 0] 38 (0,0)))
 case first=>
  by_cases h1:nm=qL
  ·have hH:=HH.o;rw[show yV nm=(3,19,[]) by rw[h1];rfl] at hH;obtain⟨rfl,rfl,rfl⟩:kx=3/\ox=19/\nx=[]:=dq;unfold qL at h1;subst h1;clear hH;go_wp2_with fail
   go_meet
   case rel=>exact⟨(FrP.start W bs).bl ((Bl.refl _).alloc _),H.o.bl ((((Bl.refl W).alloc _).alloc _).alloc _),aV _ _ aa⟩
  by_cases h2:nm=b8b
  ·have hH:=HH.o;rw[show yV nm=(3,20,[]) by rw[h2];rfl] at hH;obtain⟨rfl,rfl,rfl⟩:kx=3/\ox=20/\nx=[]:=dq;unfold b8b at h2;subst h2;clear hH h1;go_wp2_with fail
   go_meet
   case rel=>exact⟨(FrP.start W bs).bl ((Bl.refl _).alloc _),H.o.bl ((((Bl.refl W).alloc _).alloc _).alloc _),aV _ _ aa⟩
  by_cases h3:nm=bZ
  ·have hH:=HH.o;rw[show yV nm=(4,0,[]) by rw[h3];rfl] at hH;obtain⟨rfl,rfl,rfl⟩:kx=4/\ox=0/\nx=[]:=dq;unfold bZ at h3;subst h3;clear hH h1 h2;go_wp2_with fail
   go_meet
   case rel=>exact⟨(FrP.start W bs).bl ((Bl.refl _).alloc _),H.o.bl ((((Bl.refl W).alloc _).alloc _).alloc _),aV _ _ aa⟩
  have hH:=HH.o;rw[show yV nm=(5,0,nm) by unfold yV;rw[if_neg h1,if_neg h2,if_neg h3]] at hH;obtain⟨rfl,rfl,rfl⟩:kx=5/\ox=0/\nx=nm:=dq;have b1:(nx==[108,101,110,103,116,104])=false:=(by simpa[qL] using h1);have b2:(nx==[97,98,115])=false:=(by simpa[b8b] using h2);have b3:(nx==[99,111,97,108,101,115,99,101])=false:=(by simpa[bZ] using h3);have h4:gP.contains nx=true:=by
   have:=HKN.o;unfold tO at this;rw[show(nx==qL)=false by simpa using h1,show(nx==b8b)=false by simpa using h2,show(nx==bZ)=false by simpa using h3] at this;simpa using this
  clear hH h1 h2 h3;go_wp2_with fail
  (with_reducible refine(kU _).mono ?_)
  rintro e w1 ⟨rfl,rfl⟩;go_wp2_with fail;refine(kN (aV _ _ aa) nx).mono ?_;rintro e w1 ⟨rfl,rfl⟩;rw[h4];go_wp2_with fail
  (with_reducible refine(qB _ _).mono ?_)
  rintro e w1 ⟨rfl,rfl⟩;go_wp2_with fail
  go_meet
  case rel=>exact⟨((FrP.start W bs).bl ((Bl.refl _).alloc _)).bl ((Bl.refl _).alloc _),H.o.bl (((((Bl.refl W).alloc _).alloc _).alloc _).alloc _),(aW _ _ aa).trans (aV _ _ aa)⟩
 case rest=>
  obtain⟨hFc,hSc,hXc⟩:=hcut;have HFc:=aB hFc;have HSc:=aB hSc;have HXc:=aB hXc;have HB4:Hid ((kx==4)=decide (nm=bZ)):=by
   have:=b3e nm;rw[HH.o] at this;exact this
  have HCE:Hid (∀l,qO nm l= .mk kx (0,0,[]) [] nx ox l):=fun l=>(by rw[c3y,HH.o]);have hzc:=(aC.1 HXc.o).1;have pz:W.heap.size<wc.heap.size:=aE;have p0:=cK HFc.o.r;clear hFc hSc hXc HF0 HB0 HX0 HH HKN
  go_upto_region 10 with fail
  go_cut [38] from 28 to 38 (fun t wq=>∃(bq:Bool) (kq:Nat),t= .bool bq/\FrP W wq bs/\iV wq bs g cap ts kq/\wq.heap[W.heap.size+1+1]?=some (.cells #[.int .i64 kx,.int .i64 0,.int .i64 0,S [],S [],S nx,.int .i64 ox,.slice none 0 0] 38 (0,0))/\((bq=true/\R= .good kq (qO nm []))\/(bq=false/\kq=k/\R=dW ts f (.args nm k d []))))
  case first=>
   by_cases hc:nm=gX
   ·have hRc:=HRc.o;rw[if_pos hc] at hRc;have hc':nm=[99,111,117,110,116]:=hc;clear hc;subst hc';cases ht:bH ts k [[42],[41]] with
    |some k'=>
     rw[ht] at hRc;have HRG:=aB hRc;have HTK:=aB ht;clear hRc ht;go_wp2_with fail
     (with_reducible refine(kU _).mono ?_)
     rintro e w1 ⟨rfl,rfl⟩;go_wp2_with fail;refine(jD (HSc.o.bl ((Bl.refl wc).alloc _)) [[42],[41]] HTK.o _ 2 _ _ rfl rfl aa aa).mono ?_;rintro e w2 ⟨rfl,hg2,hs2⟩;have hgw:=dA (gI ((Bl.refl wc).alloc _) (some bs)) hg2;have HF2:=aB (HFc.o.next hbl hgw);have HX2:=aB ((hgw.block _ hzc (fun e=>by injection e with e;omega)).trans HXc.o);go_wp2_with fail
     go_meet
     case rel=>exact⟨true,k',rfl,HF2.o,hs2,HX2.o,.inl ⟨rfl,HRG.o⟩⟩
    |none=>
     rw[ht] at hRc;have HRG:=aB hRc;have HTK:=aB ht;clear hRc ht;go_wp2_with fail
     (with_reducible refine(kU _).mono ?_)
     rintro e w1 ⟨rfl,rfl⟩;go_wp2_with fail;refine(kM (HSc.o.bl ((Bl.refl wc).alloc _)) [[42],[41]] HTK.o _ 2 _ _ rfl rfl aa aa).mono ?_;rintro e w2 ⟨rfl,hg2,hs2⟩;have hgw:=dA (gI ((Bl.refl wc).alloc _) (some bs)) hg2;have HF2:=aB (HFc.o.next hbl hgw);have HX2:=aB ((hgw.block _ hzc (fun e=>by injection e with e;omega)).trans HXc.o);go_wp2_with fail
     go_meet
     case rel=>exact⟨false,k,rfl,HF2.o,hs2,HX2.o,.inr ⟨rfl,rfl,HRG.o⟩⟩
   ·have hRc:=HRc.o;rw[if_neg hc] at hRc;have HRG:=aB hRc;have hcb:(nm==[99,111,117,110,116])=false:=(by simpa[gX] using hc);have hcb2:(nm==gX)=false:=(by simpa using hc);clear hRc hc;go_wp2_with fail
    (with_reducible refine(kU _).mono ?_)
    rintro e w1 ⟨rfl,rfl⟩;go_wp2_with fail
    go_meet
    case rel=>exact⟨false,k,rfl,HFc.o.bl ((Bl.refl wc).alloc _),HSc.o.bl ((Bl.refl wc).alloc _),(aW _ _ hzc).trans HXc.o,.inr ⟨rfl,rfl,HRG.o⟩⟩
  case rest=>
   obtain⟨bq,kq,rfl,hF,hS,hX,hq⟩:=hcut;have HF:=aB hF;have HS:=aB hS;have HX:=aB hX;clear hF hS hX HRc HR0 p0 pz hzc HFc HSc HXc;have p0:=cK HF.o.r;rcases hq with⟨rfl,hq⟩|⟨rfl,rfl,hq⟩
   ·have HRG:=aB (hq.trans (by rw[HCE.o]));clear hq;obtain⟨⟨e0,e1,e2,e3,e4,e5,e6,e7⟩,-⟩:=eight HX.o;obtain⟨⟨i0,i1,i2,i3,i4,i5,i6,i7⟩,f0,f1,f3,f4,f5,f6,f7,f8⟩:=eight HF.o.x;go_wp2;obtain⟨⟨q0,q1,q2,q3,q4,q5,q6,q7⟩,-⟩:=eight (bO (HF.o).x (.int .i64 kx) (.int .i64 0) (.int .i64 0) (S []) (S []) (S nx) (.int .i64 ox) (.slice none 0 0));refine bodyPost_ret (v:= .agg #[.int .i64 kx,.int .i64 0,.int .i64 0,S [],S [],S nx,.int .i64 ox,.slice none 0 0]) eL rfl ?_;exact HF.o.fin (ya:=[]) hbl hgl HS.o (bG.nil _ _ _ _) HRG.o
   ·obtain⟨f1,rfl⟩:∃f1,f=f1+1:=by
     cases f with
     |zero=>exact absurd hq HNE.o
     |succ m=>exact⟨m,rfl⟩
    replace hq:R=nI ts (dW ts f1) (.args nm kq d []):=hq
    rw[a6r] at hq;have HRG:=aB hq;have HN2:=aB (lG (show _ from by have:=HNE.o;rw[hq] at this;exact this));have hzq:=HF.o.size;clear hq;go_wp2_with fail;refine(nO (HI.o f1 aE) HS.o HT.o hd _ rfl HN2.o).mono ?_;intro e w3 hp;obtain⟨hg3,k3,hs3,hcase⟩:=hp.open;clear hp p0;have HF3:=aB (HF.o.next hbl hg3);have HS3:=aB hs3;have hzx:=(aC.1 HX.o).1;rcases hcase with⟨yk,y1,y2,y3,yt,yn,yo,ya,ysv,ycv,hr3,hA,rfl⟩|⟨c,hc,hr3,rfl⟩
    rotate_left
    ·have HR3:=aB (show R= .bad c from by rw[HRG.o,hr3];rfl);clear hg3 hs3 hr3;go_wp2;exact⟨rfl,gT.no HF3.o.grown HS3.o hc HR3.o⟩
    have HC3:=aB (show c7d ts R nm d (f1+1) k3 [.mk yk (y1,y2,y3) yt yn yo ya] from⟨f1,by omega,by rw[HRG.o,hr3];rfl⟩);have hk3:=vX HT.o HS.o.lt hr3;have HX3:=aB ((hg3.block _ hzx (fun e=>by injection e with e;omega)).trans HX.o);have hz3:=hg3.4;have HA3:=aB (show bG (fun b=>W.heap.size+3<=b/\b≠w3.heap.size) w3 (.slice ysv ya.length ycv) ya from hA.of fun b hl (hb:_<=b)=>⟨by omega,by omega⟩);clear hg3 hs3 hr3 hA HN2 HRG HS HX;obtain⟨⟨e0,e1,e2,e3,e4,e5,e6,e7⟩,f0,f2,f3,f4,f5,f6,f7,f8⟩:=eight HX3.o;have pz3:W.heap.size+1+1<w3.heap.size:=aE;go_wp2_with fail;clear e0 e1 e2 e3 e4 e5 e6 e7 f0 f2 f3 f4 f5 f6 f7 f8;go_loopw [48] (fun t wr=>∃(v0:Value) (kk:Nat) (acc:List (Ex×Value)) (ag:Option Addr) (ac:Nat),t=v0/\acc.length<=kk/\1<=acc.length/\Hid (FrP W wr bs)/\Hid (iV wr bs g cap ts kk)/\
      Hid (wr.heap[W.heap.size+1+1]?=some (.cells #[.int .i64 kx,.int .i64 0,.int .i64 0,S [],S [],S nx,.int .i64 ox,.slice ag acc.length ac] 38 (0,0)))/\
      Hid (wr.ownsRow (W.heap.size+3) 38 8 (.slice ag acc.length ac) acc.length (a4j acc))/\Hid (∀q∈acc,bG (fun b=>W.heap.size+3<=b/\some b≠iB (.slice ag acc.length ac)) wr q.2 q.1.args)/\Hid (c7d ts R nm d (f1+1) kk (acc.map (·.1)))) (fun _ wr=>ts.length-tH wr bs)
    case atStart=>
     refine⟨_,k3,[(.mk yk (y1,y2,y3) yt yn yo ya,.slice ysv ya.length ycv)],some ⟨w3.heap.size,0,none⟩,1,rfl,by simp;omega,by simp,(HF3.o.set1 aE _ _).bl ((Bl.refl _).alloc _),(HS3.o.set1 aE aE _ _).bl ((Bl.refl _).alloc _),(aW _ _ (by rw[oN];exact pz3)).trans (lN HX3.o _ _),b6a (aV _ _ (by rw[oN])) aE,fun q hq=>?_,HC3.o⟩;obtain rfl:=gQ.1 hq;exact(((HA3.o.of fun b _ hb=>⟨hb.1,fun e=>hb.2 (by injection e)⟩).keep (fun _ h=>h) fun i hi _=>aM _ ⟨W.heap.size+1+1,7,none⟩ _ _ dt)).bl ((Bl.refl _).alloc _)
    case round=>
     clear HA3 HX3 HS3 HF3 HC3;obtain⟨v0,kk,acc,ag,ac,rfl,hak,hac,HF,HS,HX,HOW,HTR,HC⟩:=hrel;have hzx:=(aC.1 HX.o).1;have hkk:=HS.o.lt;have hfew:=HS.o.few;obtain⟨⟨e0,e1,e2,e3,e4,e5,e6,e7⟩,-⟩:=eight HX.o;obtain⟨f',hf',hRf⟩:=HC.o;unfold a8v at hRf;by_cases hco:nm=bZ
     ·have hk4:kx=4:=by
       have h:=HB4.o;rw[decide_eq_true hco] at h;simpa using h
      subst hk4;rw[if_pos hco] at hRf;have p0:=cK HF.o.r;cases ht:bH ts kk [[44]] with
      |none=>
       rw[ht] at hRf;simp only at hRf;have HRf:=aB hRf;have HTK:=aB ht;clear hRf ht hco HC;go_wp2_with fail;refine(kM HS.o [[44]] HTK.o _ 1 _ _ rfl rfl aa aa).mono ?_;rintro e w4 ⟨rfl,hg4,hs4⟩;have HF4:=aB (HF.o.next hbl hg4);have HS4:=aB hs4;have HX4:=aB ((hg4.block _ hzx (fun e=>by injection e with e;omega)).trans HX.o);have HOW4:=aB (pO HOW.o hg4 aE);have HTR4:=aB (show ∀q∈acc,bG (fun b=>W.heap.size+3<=b/\some b≠iB (.slice ag acc.length ac)) w4 q.2 q.1.args from fun q hq=>(HTR.o q hq).grown hg4 (fun h=>by omega));clear hg4 hs4 p0 e0 e1 e2 e3 e4 e5 e6 e7;have p9:=cK (HF4).o.r;have hzx9:=(aC.1 (HX4).o).1;cases ht9:bH ts kk [[41]] with
       |some k9=>
        have hR9:=HRf.o;rw[ht9] at hR9;have HR9:=aB (hR9.trans (by rw[HCE.o]));have HT9:=aB ht9;clear hR9 ht9;go_wp2_with fail;refine(jD (HS4).o [[41]] HT9.o _ 1 _ _ rfl rfl aa aa).mono ?_;rintro e w9 ⟨rfl,hg9,hs9⟩;have HF9:=aB ((HF4).o.next hbl hg9);have HS9:=aB hs9;have HX9:=aB ((hg9.block _ hzx9 (fun e=>by injection e with e;omega)).trans (HX4).o);have HA9:=aB (a5p (p:=fun b=>W.heap.size+2<=b) (pO (HOW4).o hg9 aE) hac (fun b hb=>by omega) (fun q hq=>((HTR4).o q hq).grown hg9 (fun h=>by omega) |>.of fun b _ hb=>by omega));clear hg9 hs9 p9;go_wp2_with fail
        (with_reducible refine(qB _ _).mono ?_)
        rintro e w1 ⟨rfl,rfl⟩;obtain⟨⟨e0,e1,e2,e3,e4,e5,e6,e7⟩,-⟩:=eight HX9.o;obtain⟨⟨i0,i1,i2,i3,i4,i5,i6,i7⟩,f0,f2,f3,f4,f5,f6,f7,f8⟩:=eight HF9.o.x;go_wp2;obtain⟨⟨q0,q1,q2,q3,q4,q5,q6,q7⟩,-⟩:=eight (bO (HF9.o).x (.int .i64 4) (.int .i64 0) (.int .i64 0) (S []) (S []) (S nx) (.int .i64 ox) (.slice ag acc.length ac));refine bodyPost_ret (v:= .agg #[.int .i64 4,.int .i64 0,.int .i64 0,S [],S [],S nx,.int .i64 ox,.slice ag acc.length ac]) eL rfl ?_;have hfin:=HF9.o.fin hbl hgl HS9.o HA9.o HR9.o;rw[mD] at hfin;exact hfin
       |none=>
        have hR9:=HRf.o;rw[ht9] at hR9;have HR9:=aB hR9;have HT9:=aB ht9;clear hR9 ht9;go_wp2_with fail;refine(kM (HS4).o [[41]] HT9.o _ 1 _ _ rfl rfl aa aa).mono ?_;rintro e w9 ⟨rfl,hg9,hs9⟩;have HF9:=aB ((HF4).o.next hbl hg9);have HS9:=aB hs9;clear hg9 hs9 p9;go_wp2_with fail
        (with_reducible refine(rX _ _).mono ?_)
        rintro e w1 ⟨rfl,rfl⟩;go_wp2;exact⟨rfl,gT.no HF9.o.grown HS9.o (.inr rfl) HR9.o⟩
      |some k2=>
       rw[ht] at hRf;simp only at hRf;obtain⟨f2,rfl⟩:∃f2,f'=f2+1:=by
        cases f' with
        |zero=>exact absurd hRf HNE.o
        |succ m=>exact⟨m,rfl⟩
       replace hRf:R=nI ts (dW ts f2) (.args nm k2 d (acc.map (·.1))):=hRf
       rw[a6r] at hRf;have hk2:=gV HT.o hkk ht;have HRF:=aB hRf;have HN4:=aB (lG (show _ from by have:=HNE.o;rw[hRf] at this;exact this));have HTK:=aB ht;clear hRf ht hco HC;go_wp2_with fail;refine(jD HS.o [[44]] HTK.o _ 1 _ _ rfl rfl aa aa).mono ?_;rintro e w4 ⟨rfl,hg4,hs4⟩;have HF4:=aB (HF.o.next hbl hg4);have HS4:=aB hs4;have HX4:=aB ((hg4.block _ hzx (fun e=>by injection e with e;omega)).trans HX.o);have HOW4:=aB (pO HOW.o hg4 aE);have HTR4:=aB (show ∀q∈acc,bG (fun b=>W.heap.size+3<=b/\some b≠iB (.slice ag acc.length ac)) w4 q.2 q.1.args from fun q hq=>(HTR.o q hq).grown hg4 (fun h=>by omega));have hlow:=aB HOW4.o.lt;have hzx4:=(aC.1 HX4.o).1;clear hg4 hs4 p0 e0 e1 e2 e3 e4 e5 e6 e7;go_wp2_with fail;refine(bM (fun B=>B.heap[W.heap.size]?=some (.cells #[.pointer (some ⟨bs,0,none⟩)] 320 (0,0))) ((.take 0 (.take 2 (.take 3 (.two 1 4 (.one 4 (.one 5 (.one 6 (.take 7 (.one 8 .done))))) (.two 1 5 (.one 5 (.one 6 (.take 7 (.one 8 .done)))) (.one 1 (.one 6 (.take 7 (.one 8 .done)))))))))) af af af (fun c a d v w h=>by cases d<;>exact h) ((HF4.o.bl ((Bl.refl _).drew)).r) ?_);intro wd HWD hY;iterate 3 (refine cT ?_)
       refine sZ ?_ ?_
       focus
        obtain⟨⟨e0,e1,e2,e3,e4,e5,e6,e7⟩,-⟩:=eight (Eq.trans (HWD.o.block _ hzx4) HX4.o);refine aL rfl (fun K hK=>?_);go_simp;refine hK.o _ _ (hY) ?_;clear hY hK K;intro hY;clear e0 e1 e2 e3 e4 e5 e6 e7;refine aL rfl (fun K hK=>?_);go_simp;(refine(nO (HI.o f2 aE) (HS4.o.bl HWD.o) HT.o hd _ rfl HN4.o).mono ?_;intro e w5 hp;obtain⟨hg5,k5,hs5,hcase⟩:=hp.open;clear hp;have HF5:=aB ((HF4.o.bl HWD.o).next hbl hg5);rcases hcase with⟨zk,z1,z2,z3,zt,zn,zo,za,zsv,zcv,hr5,hZ,rfl⟩|⟨c,hc,hr5,rfl⟩;rotate_left;(· go_wp2;exact⟨rfl,gT.no HF5.o.grown hs5 hc (by rw[HRF.o,hr5];rfl)⟩);have hzd:=HWD.o.size;have HX5:=aB ((hg5.block _ aE (fun e=>by injection e with e;omega)).trans ((HWD.o.block _ aE).trans HX4.o));have HS5:=aB hs5;have pz5:W.heap.size+1+1<w5.heap.size:=(by have:=hg5.4;omega);have hk5:=vX HT.o hk2.2 hr5;have HR5:=aB hr5;have HOW5:=aB (pO (gY HWD.o HOW4.o) hg5 aE);have hz5:=hg5.4;have HTR5:=aB (show ∀q∈acc,bG (fun b=>W.heap.size+3<=b/\some b≠iB (.slice ag acc.length ac)) w5 q.2 q.1.args from fun q hq=>((HTR4.o q hq).bl HWD.o).grown hg5 (fun h=>by omega));have HZ:=aB (show bG (fun b=>W.heap.size+3<=b/\some b≠iB (.slice ag acc.length ac)) w5 (.slice zsv za.length zcv) za from hZ.of fun b hl (hb:_<=b)=>⟨by omega,fun e=>by have:=(hlow.o b e.symm).2;omega⟩);clear hg5 hs5 hr5 hZ;obtain⟨⟨g0,g1,g2,g3,g4,g5,g6,g7⟩,-⟩:=eight HX5.o);go_wp2_with fail;refine hK.o _ _ (HF5.o.r) ?_;clear hY hK K;intro hY;refine aL rfl (fun K hK=>?_);go_simp;refine hK.o _ _ (((HF5.o.bl ((Bl.refl _).alloc _)).r)) ?_;clear hY hK K;intro hY;refine aL rfl (fun K hK=>?_);rw[if_pos ab];refine wZ (.tmp 55) (.tmp 59) rfl (W.heap.size+3) (.slice ag acc.length ac) acc rfl (gY ((Bl.refl _).alloc _) HOW5.o) w5.heap.size (.mk zk (z1,z2,z3) zt zn zo za) zsv za.length zcv rfl (aN w5 _) aE am ?_;intro v' w6 hown6 hg6 hat;have HF6:=aB ((HF5.o.bl ((Bl.refl _).alloc _)).own hg6 (fun j e=>by have:=(hlow.o j e).1;omega));refine hK.o _ _ HF6.o.r (fun hY2=>?_);clear hY hK K;have hY:=hY2;clear hY2;have HX6:=aB ((hg6.block _ am (fun e=>by have:=(hlow.o _ e.symm).1;omega)).trans ((aW _ _ aE).trans HX5.o));have HS6:=aB ((HS5.o.bl ((Bl.refl _).alloc _)).keep (hg6.block _ am (fun e=>by have:=(hlow.o _ e.symm).1;omega)) (hg6.block _ am (fun e=>by have:=(hlow.o _ e.symm).1;omega)));have HTR6:=aB (show ∀q∈acc++[((Ex.mk zk (z1,z2,z3) zt zn zo za),.slice zsv za.length zcv)],bG (fun b=>W.heap.size+3<=b/\some b≠v'.ownBlock) w6 q.2 q.1.args from fun q hq=>by rcases iX.1 hq with hq|hq;exact((HTR5.o q hq).bl ((Bl.refl _).alloc _)).own hg6 hat;obtain rfl:=gQ.1 hq;exact(HZ.o.bl ((Bl.refl _).alloc _)).own hg6 hat);obtain⟨gn,cn,rfl⟩:=nG hown6;have HOW6:=aB hown6;have hz6:=HF6.o.size;have hzx6:=(aC.1 HX6.o).1;clear hown6 hg6 hat g0 g1 g2 g3 g4 g5 g6 g7;refine cT ?_;obtain⟨⟨e0,e1,e2,e3,e4,e5,e6,e7⟩,c0,c1,c2,c3,c4,c5,c6,c7⟩:=eight HX6.o;refine aL rfl (fun K hK=>?_);go_simp;refine hK.o _ _ (((HF6.o.set1 aE 7 _).r)) ?_;clear hY hK K;intro hY;clear e0 e1 e2 e3 e4 e5 e6 e7 c0 c1 c2 c3 c4 c5 c6 c7;refine fO ?_;go_wp2;go_roundw
        case rel=>exact⟨_,k5,acc++[((Ex.mk zk (z1,z2,z3) zt zn zo za),.slice zsv za.length zcv)],some ⟨gn,0,none⟩,cn,rfl,by simp;omega,by simp,HF6.o.set1 aE _ _,HS6.o.set1 aE aE _ _,by rw[bD];exact lN HX6.o _ _,by rw[bD];exact a3n HOW6.o aE _ _,by rw[bD];exact fun q hq=>(HTR6.o q hq).keep (fun _ h=>h) fun i hi _=>aM _ ⟨W.heap.size+1+1,7,none⟩ _ _ dt,⟨f2,by omega,by rw[HRF.o,HR5.o,kW];rfl⟩⟩
        case measure=>have n1:=kY HS.o;have n2:=kY (HS6.o.set1 (b:=W.heap.size+1+1) aE aE 7 (.slice (some ⟨gn,0,none⟩) (acc.length+1) cn));show ts.length-tH (w6.setCell ⟨W.heap.size+1+1,7,none⟩ (.slice (some ⟨gn,0,none⟩) (acc.length+1) cn)) bs<ts.length-tH wr bs;rw[n1,n2];have:=hk2.1;omega
       rotate_left 1
       focus
        refine aL rfl (fun K hK=>?_);go_simp;(refine(nO (HI.o f2 aE) (HS4.o.bl HWD.o) HT.o hd _ rfl HN4.o).mono ?_;intro e w5 hp;obtain⟨hg5,k5,hs5,hcase⟩:=hp.open;clear hp;have HF5:=aB ((HF4.o.bl HWD.o).next hbl hg5);rcases hcase with⟨zk,z1,z2,z3,zt,zn,zo,za,zsv,zcv,hr5,hZ,rfl⟩|⟨c,hc,hr5,rfl⟩;rotate_left;(· go_wp2;exact⟨rfl,gT.no HF5.o.grown hs5 hc (by rw[HRF.o,hr5];rfl)⟩);have hzd:=HWD.o.size;have HX5:=aB ((hg5.block _ aE (fun e=>by injection e with e;omega)).trans ((HWD.o.block _ aE).trans HX4.o));have HS5:=aB hs5;have pz5:W.heap.size+1+1<w5.heap.size:=(by have:=hg5.4;omega);have hk5:=vX HT.o hk2.2 hr5;have HR5:=aB hr5;have HOW5:=aB (pO (gY HWD.o HOW4.o) hg5 aE);have hz5:=hg5.4;have HTR5:=aB (show ∀q∈acc,bG (fun b=>W.heap.size+3<=b/\some b≠iB (.slice ag acc.length ac)) w5 q.2 q.1.args from fun q hq=>((HTR4.o q hq).bl HWD.o).grown hg5 (fun h=>by omega));have HZ:=aB (show bG (fun b=>W.heap.size+3<=b/\some b≠iB (.slice ag acc.length ac)) w5 (.slice zsv za.length zcv) za from hZ.of fun b hl (hb:_<=b)=>⟨by omega,fun e=>by have:=(hlow.o b e.symm).2;omega⟩);clear hg5 hs5 hr5 hZ;obtain⟨⟨g0,g1,g2,g3,g4,g5,g6,g7⟩,-⟩:=eight HX5.o);go_wp2_with fail;refine hK.o _ _ (HF5.o.r) ?_;clear hY hK K;intro hY;refine sZ ?_ ?_
        focus
         obtain⟨⟨e0,e1,e2,e3,e4,e5,e6,e7⟩,-⟩:=eight (Eq.trans (HWD.o.block _ hzx4) HX4.o);refine aL rfl (fun K hK=>?_);go_simp;refine hK.o _ _ (hY) ?_;clear hY hK K;intro hY;clear e0 e1 e2 e3 e4 e5 e6 e7;refine aL rfl (fun K hK=>?_);go_simp;refine hK.o _ _ (((HF5.o.bl ((Bl.refl _).alloc _)).r)) ?_;clear hY hK K;intro hY;refine aL rfl (fun K hK=>?_);rw[if_pos ab];refine wZ (.tmp 55) (.tmp 59) rfl (W.heap.size+3) (.slice ag acc.length ac) acc rfl (gY ((Bl.refl _).alloc _) HOW5.o) w5.heap.size (.mk zk (z1,z2,z3) zt zn zo za) zsv za.length zcv rfl (aN w5 _) aE am ?_;intro v' w6 hown6 hg6 hat;have HF6:=aB ((HF5.o.bl ((Bl.refl _).alloc _)).own hg6 (fun j e=>by have:=(hlow.o j e).1;omega));refine hK.o _ _ HF6.o.r (fun hY2=>?_);clear hY hK K;have hY:=hY2;clear hY2;have HX6:=aB ((hg6.block _ am (fun e=>by have:=(hlow.o _ e.symm).1;omega)).trans ((aW _ _ aE).trans HX5.o));have HS6:=aB ((HS5.o.bl ((Bl.refl _).alloc _)).keep (hg6.block _ am (fun e=>by have:=(hlow.o _ e.symm).1;omega)) (hg6.block _ am (fun e=>by have:=(hlow.o _ e.symm).1;omega)));have HTR6:=aB (show ∀q∈acc++[((Ex.mk zk (z1,z2,z3) zt zn zo za),.slice zsv za.length zcv)],bG (fun b=>W.heap.size+3<=b/\some b≠v'.ownBlock) w6 q.2 q.1.args from fun q hq=>by rcases iX.1 hq with hq|hq;exact((HTR5.o q hq).bl ((Bl.refl _).alloc _)).own hg6 hat;obtain rfl:=gQ.1 hq;exact(HZ.o.bl ((Bl.refl _).alloc _)).own hg6 hat);obtain⟨gn,cn,rfl⟩:=nG hown6;have HOW6:=aB hown6;have hz6:=HF6.o.size;have hzx6:=(aC.1 HX6.o).1;clear hown6 hg6 hat g0 g1 g2 g3 g4 g5 g6 g7;refine cT ?_;obtain⟨⟨e0,e1,e2,e3,e4,e5,e6,e7⟩,c0,c1,c2,c3,c4,c5,c6,c7⟩:=eight HX6.o;refine aL rfl (fun K hK=>?_);go_simp;refine hK.o _ _ (((HF6.o.set1 aE 7 _).r)) ?_;clear hY hK K;intro hY;clear e0 e1 e2 e3 e4 e5 e6 e7 c0 c1 c2 c3 c4 c5 c6 c7;refine fO ?_;go_wp2;go_roundw
         case rel=>exact⟨_,k5,acc++[((Ex.mk zk (z1,z2,z3) zt zn zo za),.slice zsv za.length zcv)],some ⟨gn,0,none⟩,cn,rfl,by simp;omega,by simp,HF6.o.set1 aE _ _,HS6.o.set1 aE aE _ _,by rw[bD];exact lN HX6.o _ _,by rw[bD];exact a3n HOW6.o aE _ _,by rw[bD];exact fun q hq=>(HTR6.o q hq).keep (fun _ h=>h) fun i hi _=>aM _ ⟨W.heap.size+1+1,7,none⟩ _ _ dt,⟨f2,by omega,by rw[HRF.o,HR5.o,kW];rfl⟩⟩
         case measure=>have n1:=kY HS.o;have n2:=kY (HS6.o.set1 (b:=W.heap.size+1+1) aE aE 7 (.slice (some ⟨gn,0,none⟩) (acc.length+1) cn));show ts.length-tH (w6.setCell ⟨W.heap.size+1+1,7,none⟩ (.slice (some ⟨gn,0,none⟩) (acc.length+1) cn)) bs<ts.length-tH wr bs;rw[n1,n2];have:=hk2.1;omega
        rotate_left 1
        focus
         refine aL rfl (fun K hK=>?_);go_simp;refine hK.o _ _ (((HF5.o.bl ((Bl.refl _).alloc _)).r)) ?_;clear hY hK K;intro hY;obtain⟨⟨e0,e1,e2,e3,e4,e5,e6,e7⟩,-⟩:=eight (Eq.trans (HWD.o.block _ hzx4) HX4.o);refine aL rfl (fun K hK=>?_);go_simp;refine hK.o _ _ (hY) ?_;clear hY hK K;intro hY;clear e0 e1 e2 e3 e4 e5 e6 e7;refine aL rfl (fun K hK=>?_);rw[if_pos ab];refine wZ (.tmp 55) (.tmp 59) rfl (W.heap.size+3) (.slice ag acc.length ac) acc rfl (gY ((Bl.refl _).alloc _) HOW5.o) w5.heap.size (.mk zk (z1,z2,z3) zt zn zo za) zsv za.length zcv rfl (aN w5 _) aE am ?_;intro v' w6 hown6 hg6 hat;have HF6:=aB ((HF5.o.bl ((Bl.refl _).alloc _)).own hg6 (fun j e=>by have:=(hlow.o j e).1;omega));refine hK.o _ _ HF6.o.r (fun hY2=>?_);clear hY hK K;have hY:=hY2;clear hY2;have HX6:=aB ((hg6.block _ am (fun e=>by have:=(hlow.o _ e.symm).1;omega)).trans ((aW _ _ aE).trans HX5.o));have HS6:=aB ((HS5.o.bl ((Bl.refl _).alloc _)).keep (hg6.block _ am (fun e=>by have:=(hlow.o _ e.symm).1;omega)) (hg6.block _ am (fun e=>by have:=(hlow.o _ e.symm).1;omega)));have HTR6:=aB (show ∀q∈acc++[((Ex.mk zk (z1,z2,z3) zt zn zo za),.slice zsv za.length zcv)],bG (fun b=>W.heap.size+3<=b/\some b≠v'.ownBlock) w6 q.2 q.1.args from fun q hq=>by rcases iX.1 hq with hq|hq;exact((HTR5.o q hq).bl ((Bl.refl _).alloc _)).own hg6 hat;obtain rfl:=gQ.1 hq;exact(HZ.o.bl ((Bl.refl _).alloc _)).own hg6 hat);obtain⟨gn,cn,rfl⟩:=nG hown6;have HOW6:=aB hown6;have hz6:=HF6.o.size;have hzx6:=(aC.1 HX6.o).1;clear hown6 hg6 hat g0 g1 g2 g3 g4 g5 g6 g7;refine cT ?_;obtain⟨⟨e0,e1,e2,e3,e4,e5,e6,e7⟩,c0,c1,c2,c3,c4,c5,c6,c7⟩:=eight HX6.o;refine aL rfl (fun K hK=>?_);go_simp;refine hK.o _ _ (((HF6.o.set1 aE 7 _).r)) ?_;clear hY hK K;intro hY;clear e0 e1 e2 e3 e4 e5 e6 e7 c0 c1 c2 c3 c4 c5 c6 c7;refine fO ?_;go_wp2;go_roundw
         case rel=>exact⟨_,k5,acc++[((Ex.mk zk (z1,z2,z3) zt zn zo za),.slice zsv za.length zcv)],some ⟨gn,0,none⟩,cn,rfl,by simp;omega,by simp,HF6.o.set1 aE _ _,HS6.o.set1 aE aE _ _,by rw[bD];exact lN HX6.o _ _,by rw[bD];exact a3n HOW6.o aE _ _,by rw[bD];exact fun q hq=>(HTR6.o q hq).keep (fun _ h=>h) fun i hi _=>aM _ ⟨W.heap.size+1+1,7,none⟩ _ _ dt,⟨f2,by omega,by rw[HRF.o,HR5.o,kW];rfl⟩⟩
         case measure=>have n1:=kY HS.o;have n2:=kY (HS6.o.set1 (b:=W.heap.size+1+1) aE aE 7 (.slice (some ⟨gn,0,none⟩) (acc.length+1) cn));show ts.length-tH (w6.setCell ⟨W.heap.size+1+1,7,none⟩ (.slice (some ⟨gn,0,none⟩) (acc.length+1) cn)) bs<ts.length-tH wr bs;rw[n1,n2];have:=hk2.1;omega
     ·have hb4:(kx==4)=false:=by rw[HB4.o];exact decide_eq_false hco
      rw[if_neg hco] at hRf;simp only at hRf;have HRf:=aB hRf;clear hRf hco HC;have p9:=cK (HF).o.r;have hzx9:=(aC.1 (HX).o).1;cases ht9:bH ts kk [[41]] with
      |some k9=>
       have hR9:=HRf.o;rw[ht9] at hR9;have HR9:=aB (hR9.trans (by rw[HCE.o]));have HT9:=aB ht9;clear hR9 ht9;go_wp2_with fail;refine(jD (HS).o [[41]] HT9.o _ 1 _ _ rfl rfl aa aa).mono ?_;rintro e w9 ⟨rfl,hg9,hs9⟩;have HF9:=aB ((HF).o.next hbl hg9);have HS9:=aB hs9;have HX9:=aB ((hg9.block _ hzx9 (fun e=>by injection e with e;omega)).trans (HX).o);have HA9:=aB (a5p (p:=fun b=>W.heap.size+2<=b) (pO (HOW).o hg9 aE) hac (fun b hb=>by omega) (fun q hq=>((HTR).o q hq).grown hg9 (fun h=>by omega) |>.of fun b _ hb=>by omega));clear hg9 hs9 p9;go_wp2_with fail
       (with_reducible refine(qB _ _).mono ?_)
       rintro e w1 ⟨rfl,rfl⟩;obtain⟨⟨e0,e1,e2,e3,e4,e5,e6,e7⟩,-⟩:=eight HX9.o;obtain⟨⟨i0,i1,i2,i3,i4,i5,i6,i7⟩,f0,f2,f3,f4,f5,f6,f7,f8⟩:=eight HF9.o.x;go_wp2;obtain⟨⟨q0,q1,q2,q3,q4,q5,q6,q7⟩,-⟩:=eight (bO (HF9.o).x (.int .i64 kx) (.int .i64 0) (.int .i64 0) (S []) (S []) (S nx) (.int .i64 ox) (.slice ag acc.length ac));refine bodyPost_ret (v:= .agg #[.int .i64 kx,.int .i64 0,.int .i64 0,S [],S [],S nx,.int .i64 ox,.slice ag acc.length ac]) eL rfl ?_;have hfin:=HF9.o.fin hbl hgl HS9.o HA9.o HR9.o;rw[mD] at hfin;exact hfin
      |none=>
       have hR9:=HRf.o;rw[ht9] at hR9;have HR9:=aB hR9;have HT9:=aB ht9;clear hR9 ht9;go_wp2_with fail;refine(kM (HS).o [[41]] HT9.o _ 1 _ _ rfl rfl aa aa).mono ?_;rintro e w9 ⟨rfl,hg9,hs9⟩;have HF9:=aB ((HF).o.next hbl hg9);have HS9:=aB hs9;clear hg9 hs9 p9;go_wp2_with fail
       (with_reducible refine(rX _ _).mono ?_)
       rintro e w1 ⟨rfl,rfl⟩;go_wp2;exact⟨rfl,gT.no HF9.o.grown HS9.o (.inr rfl) HR9.o⟩
end
section
theorem b7s{f:Nat}(IH:∀f',f'<=f->c1c f'):c1c (f+1):=by
 intro n hn W bs g cap ts k d d' hd' h hT hd hne;subst hd';have hs:dW ts (f+1) (.rd n k d)=nI ts (dW ts f) (.rd n k d):=rfl;rw[hs] at hne⊢;have h8:n=0\/n=1\/n=2\/n=3\/n=4\/n=5\/n=6\/n=7:=aE;rcases h8 with rfl|rfl|rfl|rfl|rfl|rfl|rfl|rfl
 ·rw[uP _ _ _ _ ae ae ae] at hne⊢;exact c3r IH h hT hd hne
 ·rw[uP _ _ _ _ ae ae ae] at hne⊢;exact c0m IH h hT hd hne
 ·rw[a1b] at hne⊢;cases ht:bH ts k [rW] with
  |some k'=>
   rw[ht] at hne;exact c0k (IH f (aH _) 2 ae) h hT hd ht hne
  |none=>
   rw[ht] at hne;exact c3s (IH f (aH _) 3 ae) h hT hd ht hne
 ·rw[xD] at hne⊢;exact a3w (IH f (aH _) 4 ae) h hT hd hne
 ·rw[uP _ _ _ _ ae ae ae] at hne⊢;exact c0l IH h hT hd hne
 ·rw[uP _ _ _ _ ae ae ae] at hne⊢;exact c0d IH h hT hd hne
 ·rw[uP _ _ _ _ ae ae ae] at hne⊢;exact a6e IH h hT hd hne
 ·rw[a1a] at hne⊢;cases ht:bH ts k [[45]] with
  |some k'=>
   rw[ht] at hne;exact b6s (IH f (aH _) 7 ae) h hT hd ht hne
  |none=>
   rw[ht] at hne;refine c0e (fun W bs g cap ts k d h hT hd hne=>b2u (IH f (aH _) 0 ae) (a8i fun f' hf=>IH f' hf 0 ae) h hT hd hne) h hT hd ht hne
theorem d1i:∀(m f:Nat),f<=m->c1c f
 |_,0,_=>fun n _ W bs g cap ts k d d' _ _ _ _ hne=>absurd rfl hne
 |0,f+1,h=>by omega
 |m+1,f+1,h=>b7s fun f' hf=>d1i m f' aE
theorem a1d{P:Program}{fn:Func}{t t':Array Value}{R:Ending->World->Prop}(h:∀w,(results fn t).run P w=(results fn t').run P w):∀ds:List Deferred,Leaves P fn t R ds=Leaves P fn t' R ds
 |[]=>by
  funext u w
  cases u with
  |returning=>simp only[Leaves,h]
  |panicking c=>rfl
  |run=>rfl
 |d::ds=>by
  funext u w
  simp only[Leaves,a1d h ds]
section
variable {P:Program} {ops:Array Oper} {Q:Exit->Act->World->Prop} {S:World->Prop}
theorem zY{lo:Nat}(hs:jZ ops=true)(hlo:∀(i:Nat) (o:Oper),ops[i]?=some o->∀t,o.dst=some t->lo<=t)(hQ:∀(c:_) (a:Act) (d:Nat) (v:Value) (w:World),lo<=d->Q (.panic c) (a.put (some d) v) w->Q (.panic c) a w):
  ∀(s:Sc) (n:Nat) (listed:Array Bool) (a:Act) (w:World),scB ops n s listed=true->S w->a2w P ops Q S s a w->wpAnyH P .any ops Q S n listed a w
 | .done,n,listed,a,w,hB,_,h=>by
  simp only[scB,aQ,beq_iff_eq] at hB;obtain⟨rfl,hB⟩:=hB;exact wpAnyH_done (by simpa using hB) h _
 | .take i s,0,_,_,_,hB,_,_=>by simp[scB] at hB
 | .take i s,n+1,listed,a,w,hB,hS,h=>by
  simp only[scB,aQ] at hB;obtain⟨o,v,ho,hy,h⟩:=h;refine wpAnyH_take ho hs hB.1.1 hB.1.2 (fun c a w hq=>?_) hy hS (zY hs hlo hQ s _ _ _ _ hB.2 hS h);cases hd:o.dst with
  |none=>rw[hd] at hq;exact hq
  |some t=>rw[hd] at hq;exact hQ c a t _ w (hlo i o ho t hd) hq
 | .one i s,0,_,_,_,hB,_,_=>by simp[scB] at hB
 | .one i s,n+1,listed,a,w,hB,hS,h=>by
  simp only[scB,aQ,beq_iff_eq] at hB;refine wpAnyH_all hB.1 aa ?_;intro j hj;obtain rfl:j=i:=cD;exact wpOp_mono (fun a' w' hk=>⟨hk.1,zY hs hlo hQ s _ _ _ _ hB.2 hk.1 hk.2⟩) h
 | .two i k s t,0,_,_,_,hB,_,_=>by simp[scB] at hB
 | .two i k s t,n+1,listed,a,w,hB,hS,h=>by
  simp only[scB,aQ,beq_iff_eq] at hB;refine wpAnyH_all hB.1.1 aa ?_;intro j hj;have hj':j=i\/j=k:=cD;rcases hj' with rfl|rfl
  ·exact wpOp_mono (fun a' w' hk=>⟨hk.1,zY hs hlo hQ s _ _ _ _ hB.1.2 hk.1 hk.2⟩) h.1
  ·exact wpOp_mono (fun a' w' hk=>⟨hk.1,zY hs hlo hQ t _ _ _ _ hB.2 hk.1 hk.2⟩) h.2
theorem c9q{lo:Nat}(h:(ops.toList.all fun o=>match o.dst with |some t=>decide (lo<=t)|none=>true)=true):∀(i:Nat) (o:Oper),ops[i]?=some o->∀t,o.dst=some t->lo<=t:=by
 intro i o ho t hd;have hm:o∈ops.toList:=by
  rw[<-oL] at ho;exact dJ ho
 have:=jA.1 h o hm;rw[hd] at this;simpa using this
theorem a2t{id:Nat}{a:Act}{w:World}(lo:Nat)(S:World->Prop)(s:Sc)(hm:P.follows .mixedOrders=true)(hs:jZ ops=true)(hB:scB ops ops.size s (kD ops.size false)=true)
  (hlo:(ops.toList.all fun o=>match o.dst with |some t=>decide (lo<=t)|none=>true)=true)
  (hQ:∀(c:_) (a:Act) (d:Nat) (v:Value) (w:World),lo<=d->Q (.panic c) (a.put (some d) v) w->Q (.panic c) a w) (hS:S w.drew) (h:∀wd,Hid (Bl w wd)->S wd->a2w P ops Q S s a wd):(Code.region id ops true).wp P Q a w:=
 wp_region_held hm (zY hs (c9q hlo) hQ _ _ _ a _ hB hS (h _ ((Bl.refl w).drew) hS))
end
abbrev zV:Value:=EV 0 (0,0,[]) [] [] 0 (.slice none 0 0)
abbrev zC:Array Value:= #[.int .i64 0,.int .i64 0,.int .i64 0,S [],S [],S [],.int .i64 0,.slice none 0 0]
abbrev d0w(A:World)(b:Nat):World:=set8 A b (.int .i64 0) (.int .i64 0) (.int .i64 0) (S []) (S []) (S []) (.int .i64 0) (.slice none 0 0)
theorem b2v{A:World}{bs g cap k k0 X Sb Wb:Nat}{ts:List Tok}{x0 x1 x2 x3 x4 x5 x6 x7:Value}(hs:iV A bs g cap ts k)(hk:k0<ts.length)(hX:A.heap[X]?=some (.cells #[x0,x1,x2,x3,x4,x5,x6,x7] 38 (0,0)))(hS:A.heap[Sb]?=some (.cells #[.pointer (some ⟨bs,0,none⟩)] 66 (0,0)))(hW:A.heap[Wb]?=some (.cells #[.int .i64 (k0:Int)] 3 (0,0)))
  (h1:X≠Sb) (h2:X≠Wb) (h3:bs≠X) (h4:g≠X):
  eg 298 #[.pointer (some ⟨X,0,none⟩),.pointer (some ⟨Sb,0,none⟩),.pointer (some ⟨Wb,0,none⟩)] A fun e w'=>e= .returned (.tuple #[])/\((d0w A X).grownBy w' (some bs)/\iV w' bs g cap ts k0):=by
 obtain⟨⟨e0,e1,e2,e3,e4,e5,e6,e7⟩,f0,f1,f2,f3,f4,f5,f6,f7⟩:=eight hX;have c1:=cK hS;have c2:=cK hW;have d1:=cK ((bP A (Ne.symm h1) (.int .i64 0) (.int .i64 0) (.int .i64 0) (S []) (S []) (S []) (.int .i64 0) (.slice none 0 0)).trans hS);have d2:=cK ((bP A (Ne.symm h2) (.int .i64 0) (.int .i64 0) (.int .i64 0) (S []) (S []) (S []) (.int .i64 0) (.slice none 0 0)).trans hW);have HS:=aB (hs.set8 h3 h4 (.int .i64 0) (.int .i64 0) (.int .i64 0) (S []) (S []) (S []) (.int .i64 0) (.slice none 0 0));have HK:=aB hk;clear hs hX hS hW hk;go_enter func298,ntmps298;go_wp2_with fail;refine(b4r HS.o (k0:Int)).mono ?_;rintro e w' ⟨hg,(⟨-,-,rfl,hs⟩|⟨hn,-,-⟩)⟩
 ·rw[Int.toNat_natCast] at hs;go_wp2;go_end0;exact⟨rfl,hg,hs⟩
 ·exact absurd ⟨by omega,by have:=HK.o;omega⟩ hn
end
section
def b7y(bs g cap:Nat)(ts:List Tok)(k:Nat)(W:World)(e:Ending)(w':World):Prop:=
 W.grownBy w' (some bs)/\((∃k' x v,uD ts k= .good k' x/\iV w' bs g cap ts k'/\pU W.heap.size w' x v/\e= .returned (.tuple #[v,.int .i64 0]))\/
  (∃c,(c=260\/c=261)/\uD ts k= .bad c/\iV w' bs g cap ts k/\e= .returned (.tuple #[zV,.int .i64 c])))
structure FrE(W A:World)(bs k:Nat):Prop where
 grown:W.grownBy A (some bs)
 s:A.heap[W.heap.size]?=some (.cells #[.pointer (some ⟨bs,0,none⟩)] 66 (0,0))
 x:A.heap[W.heap.size+1]?=some (.cells zC 38 (0,0))
 e:A.heap[W.heap.size+2]?=some (.cells #[.int .i64 0] 47 (0,0))
 q:A.heap[W.heap.size+3]?=some (.cells #[.int .i64 (k:Int)] 3 (0,0))
theorem FrE.size{W A:World}{bs k:Nat}(h:FrE W A bs k):W.heap.size+3<A.heap.size:=(aC.1 h.q).1
theorem FrE.next{W A B:World}{bs k:Nat}(h:FrE W A bs k)(hb:bs<W.heap.size)(hg:A.grownBy B (some bs)):FrE W B bs k:=
 have hz:=h.size
 ⟨dA h.grown hg,(hg.block _ aE (fun e=>by injection e with e;omega)).trans h.s,(hg.block _ aE (fun e=>by injection e with e;omega)).trans h.x,(hg.block _ aE (fun e=>by injection e with e;omega)).trans h.e,(hg.block _ aE (fun e=>by injection e with e;omega)).trans h.q⟩
theorem FrE.bl{W A B:World}{bs k:Nat}(h:FrE W A bs k)(hb:bs<W.heap.size)(hg:Bl A B):FrE W B bs k:=h.next hb (gI hg _)
theorem FrE.start(W:World)(bs k:Nat):FrE W ((((W.alloc (.cells #[.pointer (some ⟨bs,0,none⟩)] 66)).alloc (.cells zC 38)).alloc (.cells #[.int .i64 0] 47)).alloc (.cells #[.int .i64 (k:Int)] 3)) bs k:=
 ⟨gI ((((Bl.refl W).alloc _).alloc _).alloc _ |>.alloc _) _,(aW _ _ (by simp<;>omega)).trans (uA _ _ _ _),(aW _ _ (by simp<;>omega)).trans (oZ _ _ _ _),(aW _ _ aa).trans (aV _ _ aa),aV _ _ aa⟩
theorem b3o(a:Act)(d:Nat)(v:Value)(hd:8<=d)(w:World):(results Tryz.f250 (a.put (some d) v).tmps).run prog w=(results Tryz.f250 a.tmps).run prog w:=by
 have e:∀i,i<8->(a.tmps.setIfInBounds d v)[i]?=a.tmps[i]?:=fun i hi=>(by rw[Array.getElem?_setIfInBounds_ne aE]);simp[results,results250,aK,e]
theorem a1i(args:Array Value)(w:World):(callFunc 298 args).run prog w= .ok (.enter 298 args) w:=by
 simp[go_sem]
theorem b3p{W:World}{bs g cap k:Nat}{ts:List Tok}(h:iV W bs g cap ts k)(hT:lC ts):eg 250 #[.pointer (some ⟨bs,0,none⟩)] W (b7y bs g cap ts k W):=by
 have hne:uD ts k≠ .o:=by
  intro e;have he:=yM hT h.lt;rw[e] at he;exact he
 obtain⟨R,HR0⟩:∃R,Hid (R=uD ts k):=⟨_,rfl⟩
 have HNE:=aB hne;have H:=aB h;have HT:=aB hT;have hbl:=h.lt';have hgl:=h.gl;have hmf:∀(fn:Fn) (first cap:Array Value) (w:World),(Instr.makeFunc fn first cap).run prog w= .ok (.func fn first cap) w:=fun _ _ _ _=>rfl;have HF0:=aB (FrE.start W bs k);have HB0:=aB (((Bl.refl W).alloc (.cells #[.pointer (some ⟨bs,0,none⟩)] 66)).alloc (.cells zC 38) |>.alloc (.cells #[.int .i64 0] 47));have HQ:Hid (∀(c:_) (a:Act) (d:Nat) (v:Value) (w:World),8<=d->Leaves prog Tryz.f250 (a.put (some d) v).tmps (b7y bs g cap ts k W) (a.put (some d) v).defers (.panicking c) w->Leaves prog Tryz.f250 a.tmps (b7y bs g cap ts k W) a.defers (.panicking c) w):=fun c a d v w hd h=>by
  rw[a1d (b3o a d v hd)] at h;exact h
 clear h hT hne
 go_enter_defers func250,ntmps250
 go_wp2_with fail
 (with_reducible refine(b9a (H.o.bl HB0.o)).mono ?_)
 rintro e w1 ⟨rfl,rfl⟩;go_wp2_with fail;refine(a2t 8 (fun B=>B.heap[W.heap.size]?=some (.cells #[.pointer (some ⟨bs,0,none⟩)] 66 (0,0))) ((.take 2 (.take 3 (.one 0 (.take 1 (.one 4 (.one 5 (.one 6 .done)))))))) af af af af (fun c a d v w hd h=>HQ.o c a d v w hd h) ((HF0.o.bl hbl ((Bl.refl _).drew)).s) ?_);intro wd HWD hY;iterate 2 (refine cT ?_)
 refine aL rfl (fun K hK=>?_);go_simp;((with_reducible refine(jK _).mono ?_);rintro e w2 ⟨rfl,hb2⟩;have HB2:=aB (HWD.o.call hb2);have HF2:=aB (HF0.o.bl hbl HB2.o);have hz2:=HF2.o.size;clear hb2);go_wp2_with fail;refine hK.o _ _ ((by first |exact HF5.o.s|exact HF2.o.s)) ?_;clear hY hK K;intro hY;refine cT ?_;refine aL rfl (fun K hK=>?_);go_simp;refine(d1i (steps ts) (steps ts) (aH _) 0 ae _ bs g cap ts k 0 _ rfl ((H.o.bl (HB0.o.alloc _)).bl HB2.o) HT.o ae HNE.o).mono ?_;intro e w5 hp;obtain⟨hg5,k5,hs5,hcase⟩:=hp.open;clear hp;have HF5:=aB (HF2.o.next hbl hg5);have HS5:=aB hs5;have hz5:=HF5.o.size;rcases hcase with⟨yk,y1,y2,y3,yt,yn,yo,ya,ysv,ycv,hr5,hA,rfl⟩|⟨c,hc,hr5,rfl⟩
 rotate_left
 ·have HR5:=aB (show uD ts k= .bad c from hr5);have HC:=aB hc;have c0:=cK HF5.o.e;have z0:w5.frozen? ⟨W.heap.size+2,0,none⟩=false:=aJ HF5.o.e 0;clear hg5 hs5 hr5 hc;go_wp2_with fail;refine leaves_cons (f:=297) (args:= #[.pointer (some ⟨W.heap.size+2,0,none⟩),.func (.func 298) #[] #[.pointer (some ⟨W.heap.size+1,0,none⟩),.pointer (some ⟨W.heap.size,0,none⟩),.pointer (some ⟨W.heap.size+3,0,none⟩)]]) aa an ?_;have hclear:=b2v (A:=w5.setCell ⟨W.heap.size+2,0,none⟩ (.int .i64 c)) (X:=W.heap.size+1) (Sb:=W.heap.size) (Wb:=W.heap.size+3) (HS5.o.set1 aE aE _ _) H.o.lt ((aM _ ⟨W.heap.size+2,0,none⟩ _ _ be).trans HF5.o.x) ((aM _ ⟨W.heap.size+2,0,none⟩ _ _ da).trans HF5.o.s) ((aM _ ⟨W.heap.size+2,0,none⟩ _ _ dv).trans HF5.o.q) aE aE aE aE;refine(a1j ⟨W.heap.size+2,0,none⟩ 0 c 298 #[] #[.pointer (some ⟨W.heap.size+1,0,none⟩),.pointer (some ⟨W.heap.size,0,none⟩),.pointer (some ⟨W.heap.size+3,0,none⟩)] #[.pointer (some ⟨W.heap.size+1,0,none⟩),.pointer (some ⟨W.heap.size,0,none⟩),.pointer (some ⟨W.heap.size+3,0,none⟩)] aa w5 _ c0 z0 a1i hclear).mono ?_;rintro e u' w6 ⟨rfl,rfl,hg6,hs6⟩;have hx5:=(aM w5 ⟨W.heap.size+2,0,none⟩ (.int .i64 c) (W.heap.size+1) be).trans HF5.o.x;have hx6:=(hg6.block (W.heap.size+1) (by rw[zU];simp;omega) (fun e=>by injection e with e;omega)).trans (bO hx5 (.int .i64 0) (.int .i64 0) (.int .i64 0) (S []) (S []) (S []) (.int .i64 0) (.slice none 0 0));have he6:=(hg6.block (W.heap.size+2) (by rw[zU];simp;omega) (fun e=>by injection e with e;omega)).trans ((bP _ (b:=W.heap.size+1) aE _ _ _ _ _ _ _ _).trans (lN HF5.o.e 0 (.int .i64 c)));obtain⟨⟨q0,q1,q2,q3,q4,q5,q6,q7⟩,-⟩:=eight hx6;have r0:w6.cell? ⟨W.heap.size+2,0,none⟩=some (.int .i64 c):=(by rw[aG he6];rfl);refine⟨.tuple #[zV,.int .i64 c],?_,dA (uY (dP HF5.o.grown 0 aE _) aE _ _ _ _ _ _ _ _) hg6,.inr ⟨c,HC.o,HR5.o,hs6,rfl⟩⟩;simp[results,results250,go_sem,q0,q1,q2,q3,q4,q5,q6,q7,r0]
 have HR5:=aB (show uD ts k= .good k5 _ from hr5);have HA5:=aB (show bG (fun b=>W.heap.size+4<=b) w5 (.slice ysv ya.length ycv) ya from hA.of fun b _ (hb:_<=b)=>by omega);clear hg5 hs5 hr5 hA;obtain⟨⟨e0,e1,e2,e3,e4,e5,e6,e7⟩,f0,f1,f3,f4,f5,f6,f7,f8⟩:=eight HF5.o.x;go_wp2_with fail;refine hK.o _ _ HF5.o.s (fun hY2=>?_);clear hY hK K;have hY:=hY2;clear hY2;refine aL rfl (fun K hK=>?_);go_simp;refine hK.o _ _ (((bP _ (b:=W.heap.size+1) aE _ _ _ _ _ _ _ _).trans HF5.o.s)) ?_;clear hY hK K;intro hY;clear e0 e1 e2 e3 e4 e5 e6 e7 f0 f1 f3 f4 f5 f6 f7 f8;have HE7:=aB ((bP w5 (b:=W.heap.size+1) (i:=W.heap.size+2) aE (.int .i64 yk) (.int .i64 y1) (.int .i64 y2) (S y3) (S yt) (S yn) (.int .i64 yo) (.slice ysv ya.length ycv)).trans HF5.o.e);have c0:=cK HE7.o;have z0:=aJ HE7.o 0;refine aL rfl (fun K hK=>?_);go_simp;refine hK.o _ _ (((aM _ ⟨W.heap.size+2,0,none⟩ _ _ da).trans ((bP _ (b:=W.heap.size+1) aE _ _ _ _ _ _ _ _).trans HF5.o.s))) ?_;clear hY hK K;intro hY;refine fO ?_;go_wp2_with fail;refine leaves_cons (f:=297) (args:= #[.pointer (some ⟨W.heap.size+2,0,none⟩),.func (.func 298) #[] #[.pointer (some ⟨W.heap.size+1,0,none⟩),.pointer (some ⟨W.heap.size,0,none⟩),.pointer (some ⟨W.heap.size+3,0,none⟩)]]) aa an ?_;refine(a6j _ _ _).mono ?_;rintro e u' w'' ⟨rfl,rfl,rfl⟩;have hx7:=(aM _ ⟨W.heap.size+2,0,none⟩ (.int .i64 0) (W.heap.size+1) be).trans (bO HF5.o.x (.int .i64 yk) (.int .i64 y1) (.int .i64 y2) (S y3) (S yt) (S yn) (.int .i64 yo) (.slice ysv ya.length ycv));have he7:=lN HE7.o 0 (.int .i64 0);obtain⟨⟨q0,q1,q2,q3,q4,q5,q6,q7⟩,-⟩:=eight hx7;have r0:=cK (x:= .int .i64 0) he7;refine⟨.tuple #[EV yk (y1,y2,y3) yt yn yo (.slice ysv ya.length ycv),.int .i64 0],?_,dP (uY HF5.o.grown aE _ _ _ _ _ _ _ _) 0 aE _,.inl ⟨k5,_,_,HR5.o,(HS5.o.set8 aE aE _ _ _ _ _ _ _ _).set1 aE aE _ _,⟨_,rfl,?_⟩,rfl⟩⟩
 ·simp[results,results250,go_sem,q0,q1,q2,q3,q4,q5,q6,q7,r0]
 ·exact((HA5.o.set8' (b:=W.heap.size+1) (fun i hi=>by omega) _ _ _ _ _ _ _ _).keep (q:=fun b=>W.heap.size<=b) (fun b hb=>by omega) fun i hi _=>aM _ ⟨W.heap.size+2,0,none⟩ _ _ (by show i≠W.heap.size+2;omega))
end
section
theorem a6z{W A B:World}{bs:Nat}(h:Bl W A)(hg:A.grownBy B (some bs))(hb:W.heap.size<=bs):Bl W B:=iL h hg h.size (fun j hj=>by injection hj with hj;subst hj;exact hb)
end
section
def d2o{α:Type}(R:World->α->Value->Prop)(bs g cap:Nat)(ts:List Tok)(W:World)(r:d2u α)(e:Ending)(w':World):Prop:=
 W.grownBy w' (some bs)/\∃k',iV w' bs g cap ts k'/\((∃x v,r= .good k' x/\R w' x v/\e= .returned v)\/(∃c,(c=260\/c=261\/c=270)/\r= .bad c/\e=Pan c))
theorem d2o.yes{α:Type}{R:World->α->Value->Prop}{bs g cap:Nat}{ts:List Tok}{W:World}{r:d2u α}{w':World}{k':Nat}{x:α}{v:Value}(hg:W.grownBy w' (some bs))(hs:iV w' bs g cap ts k')(hr:r= .good k' x)(hx:R w' x v):d2o R bs g cap ts W r (.returned v) w':=
 ⟨hg,k',hs,.inl ⟨x,v,hr,hx,rfl⟩⟩
theorem d2o.no{α:Type}{R:World->α->Value->Prop}{bs g cap:Nat}{ts:List Tok}{W:World}{r:d2u α}{w':World}{k':Nat}{c:Int}(hg:W.grownBy w' (some bs))(hs:iV w' bs g cap ts k')(hc:c=260\/c=261\/c=270)(hr:r= .bad c):d2o R bs g cap ts W r (Pan c) w':=
 ⟨hg,k',hs,.inr ⟨c,hc,hr,rfl⟩⟩
def d7p{α:Type}(F:Form α)(n:Nat)(w:World)(x:α)(v:Value):Prop:=∃s,v= .agg (F.cells x s).toArray/\tT n w s (F.ex x).args
theorem e3d{n:Nat}{w:World}{k o:Int}{v:Int×Int×List UInt8}{t m:List UInt8}{l:List Ex}{s:Value}(h:tT n w s l):d7p fEx n w (.mk k v t m o l) (EV k v t m o s):=⟨s,rfl,h⟩
abbrev e7a(_:World)(x:List UInt8)(v:Value):Prop:=v=S x
abbrev e6j(_:World)(x:So)(v:Value):Prop:=v= .agg #[S x.t,S x.al]
structure FrB(W A:World)(bs:Nat)(T:TypeId)(cs:Array Value):Prop where
 grown:W.grownBy A (some bs)
 r:A.heap[W.heap.size]?=some (.cells #[.pointer (some ⟨bs,0,none⟩)] 241 (0,0))
 x:A.heap[W.heap.size+1]?=some (.cells cs T (0,0))
theorem FrB.size{W A:World}{bs:Nat}{T:TypeId}{cs:Array Value}(h:FrB W A bs T cs):W.heap.size+1<A.heap.size:=(aC.1 h.x).1
theorem FrB.next{W A B:World}{bs:Nat}{T:TypeId}{cs:Array Value}(h:FrB W A bs T cs)(hb:bs<W.heap.size)(hg:A.grownBy B (some bs)):FrB W B bs T cs:=
 have hz:=h.size
 ⟨dA h.grown hg,(hg.block _ aE (fun e=>by injection e with e;omega)).trans h.r,(hg.block _ aE (fun e=>by injection e with e;omega)).trans h.x⟩
theorem FrB.bl{W A B:World}{bs:Nat}{T:TypeId}{cs:Array Value}(h:FrB W A bs T cs)(hb:Bl A B):FrB W B bs T cs:=
 ⟨dA h.grown (gI hb _),(hb.block _ (by have:=h.size;omega)).trans h.r,(hb.block _ h.size).trans h.x⟩
theorem FrB.start(W:World)(bs:Nat)(T:TypeId)(cs:Array Value):FrB W ((W.alloc (.cells #[.pointer (some ⟨bs,0,none⟩)] 241)).alloc (.cells cs T)) bs T cs:=
 ⟨gI (((Bl.refl W).alloc _).alloc _) _,(aW _ _ aa).trans (aN _ _),aV _ _ aa⟩
theorem FrB.set{W A:World}{bs:Nat}{T:TypeId}{cs:Array Value}(h:FrB W A bs T cs)(i:Nat)(v:Value):FrB W (A.setCell ⟨W.heap.size+1,i,none⟩ v) bs T (cs.setIfInBounds i v):=
 ⟨dP h.grown i aE v,(aM _ ⟨W.heap.size+1,i,none⟩ _ _ ee).trans h.r,lN h.x i v⟩
theorem d9g{W:World}{bs g cap k k':Nat}{ts:List Tok}{n:List UInt8}(h:iV W bs g cap ts k)(hn:mM ts k=some (n,k')):eg 301 #[RV bs] W fun e w'=>e= .returned (S n)/\W.grownBy w' (some bs)/\iV w' bs g cap ts k':=by
 have HB0:=aB ((Bl.refl W).alloc (.cells #[.pointer (some ⟨bs,0,none⟩)] 241));have HN:=aB hn;clear hn;have H:=aB h;have hbl:=h.lt';have hgl:=h.gl;clear h;go_enter func301,ntmps301;go_wp2_with fail;refine(a3p (H.o.bl HB0.o) HN.o).mono ?_;rintro e w1 ⟨rfl,hg,hs⟩;have HS:=aB (bT (dA (gI HB0.o (some bs)) hg) hs);clear hg hs;go_wp2_with fail
 (with_reducible refine(d5e _ _).mono ?_)
 rintro e w' ⟨rfl,rfl⟩;go_wp2;go_ret;exact⟨rfl,HS.o.1,HS.o.2⟩
theorem e0t{W:World}{bs g cap k:Nat}{ts:List Tok}(h:iV W bs g cap ts k)(hn:mM ts k=none):eg 301 #[RV bs] W fun e w'=>e=Pan 261/\W.grownBy w' (some bs)/\iV w' bs g cap ts k:=by
 have HB0:=aB ((Bl.refl W).alloc (.cells #[.pointer (some ⟨bs,0,none⟩)] 241));have HN:=aB hn;clear hn;have H:=aB h;have hbl:=h.lt';have hgl:=h.gl;clear h;go_enter func301,ntmps301;go_wp2_with fail;refine(a8a (H.o.bl HB0.o) HN.o).mono ?_;rintro e w1 ⟨rfl,hg,hs⟩;have HS:=aB (bT (dA (gI HB0.o (some bs)) hg) hs);clear hg hs;go_wp2_with fail
 (with_reducible refine(d3t _ _).mono ?_)
 rintro e w' ⟨rfl,rfl⟩;go_wp2;exact⟨rfl,rfl,HS.o.1,HS.o.2⟩
theorem e0g{W:World}{bs g cap k:Nat}{ts:List Tok}(h:iV W bs g cap ts k):eg 253 #[RV bs] W (d2o e7a bs g cap ts W (asR ts k)):=by
 have HB0:=aB ((Bl.refl W).alloc (.cells #[.pointer (some ⟨bs,0,none⟩)] 241));have HR0:=aB (aN W (.cells #[.pointer (some ⟨bs,0,none⟩)] 241));obtain⟨R,HR⟩:∃R,Hid (R=asR ts k):=⟨_,rfl⟩
 rw[<-HR.o];have H:=aB h;have hbl:=h.lt';have hgl:=h.gl;clear h;cases ht:bH ts k [wAs] with
 |none=>
  have HT:=aB ht;have HE:=aB (show R= .good k [] from by rw[HR.o];unfold asR;rw[ht]);clear ht;go_enter func253,ntmps253;go_wp2_with fail;refine(kM (H.o.bl HB0.o) [wAs] HT.o _ 1 _ _ rfl rfl aa aa).mono ?_;rintro e w1 ⟨rfl,hg,hs⟩;have HS:=aB (bT (dA (gI HB0.o (some bs)) hg) hs);clear hg hs;go_wp2;go_ret;exact d2o.yes HS.o.1 HS.o.2 HE.o rfl
 |some k1=>
  have HT:=aB ht;clear ht;cases hn:mM ts k1 with
  |none=>
   have HN:=aB hn;have HE:=aB (show R= .bad 261 from by rw[HR.o];unfold asR;rw[HT.o];simp only;rw[hn]);clear hn;go_enter func253,ntmps253;go_wp2_with fail;refine(jD (H.o.bl HB0.o) [wAs] HT.o _ 1 _ _ rfl rfl aa aa).mono ?_;rintro e w1 ⟨rfl,hg,hs⟩;have HS:=aB (bT (dA (gI HB0.o (some bs)) hg) hs);have a0:=cK ((hg.block W.heap.size aa (fun e=>by injection e with e;omega)).trans HR0.o);clear hg hs;go_wp2_with fail;refine(e0t HS.o.2 HN.o).mono ?_;rintro e w2 ⟨rfl,hg,hs⟩;have HS2:=aB (bT (dA HS.o.1 hg) hs);clear hg hs;go_wp2;exact⟨rfl,d2o.no HS2.o.1 HS2.o.2 (.inr (.inl rfl)) HE.o⟩
  |some q=>
   obtain⟨n,k2⟩:=q;have HN:=aB hn;have HE:=aB (show R= .good k2 n from by rw[HR.o];unfold asR;rw[HT.o];simp only;rw[hn]);clear hn;go_enter func253,ntmps253;go_wp2_with fail;refine(jD (H.o.bl HB0.o) [wAs] HT.o _ 1 _ _ rfl rfl aa aa).mono ?_;rintro e w1 ⟨rfl,hg,hs⟩;have HS:=aB (bT (dA (gI HB0.o (some bs)) hg) hs);have a0:=cK ((hg.block W.heap.size aa (fun e=>by injection e with e;omega)).trans HR0.o);clear hg hs;go_wp2_with fail;refine(d9g HS.o.2 HN.o).mono ?_;rintro e w2 ⟨rfl,hg,hs⟩;have HS2:=aB (bT (dA HS.o.1 hg) hs);clear hg hs;go_wp2;go_ret;exact d2o.yes HS2.o.1 HS2.o.2 HE.o rfl
def e0k(ts:List Tok)(k:Nat):d2u (List UInt8):=match mM ts k with
 |none=> .bad 261
 |some (n,k')=> .good k' n
theorem d4h(ts:List Tok)(k:Nat):d3b ts k=(e0k ts k).bind fun k1 n=>(asR ts k1).bind fun k2 a=> .good k2 ⟨n,a⟩:=by
 unfold d3b e0k;cases mM ts k<;>rfl
theorem d3w{W:World}{bs g cap k:Nat}{ts:List Tok}(h:iV W bs g cap ts k)(hT:lC ts):eg 252 #[RV bs] W (d2o (d7p fEx W.heap.size) bs g cap ts W (d3j ts k)):=by
 have HB0:=aB (((Bl.refl W).alloc (.cells #[.pointer (some ⟨bs,0,none⟩)] 241)).alloc (.cells zC 38));have HF0:=aB (FrB.start W bs 38 zC);have HT:=aB hT;obtain⟨R,HR⟩:∃R,Hid (R=d3j ts k):=⟨_,rfl⟩
 rw[<-HR.o];clear hT;have H:=aB h;have hbl:=h.lt';have hgl:=h.gl;clear h;go_enter func252,ntmps252;go_wp2_with fail;refine(b3p (H.o.bl HB0.o) HT.o).mono ?_;intro e w1 hp;obtain⟨hg1,hp⟩:=hp;have HF1:=aB (HF0.o.next hbl hg1);have hz1:=HF1.o.size;rcases hp with⟨k',x,v,hr,hs,hx,rfl⟩|⟨c,hc,hr,hs,rfl⟩
 ·have HE:=aB (show R= .good k' x from by rw[HR.o];unfold d3j;rw[hr]);have HS1:=aB hs;obtain⟨sv,rfl,hA⟩:=hx;obtain⟨a,c,rfl⟩:=hA.shape;obtain⟨xk,⟨x1,x2,x3⟩,xt,xn,xo,xa⟩:=x;simp only[Ex.k,Ex.v,Ex.t,Ex.n,Ex.o,Ex.args] at hA⊢;have HA1:=aB (show bG (fun b=>W.heap.size+2<=b) w1 (.slice a xa.length c) xa from hA.of fun b _ (hb:_<=b)=>by simp at hb;omega);clear hg1 hr hs hA;go_wp2_with fail
  (with_reducible refine(d5e _ _).mono ?_)
  rintro e w' ⟨rfl,rfl⟩;have HB1:=aB ((Bl.refl w1).alloc (.cells #[.int .i64 xk,.int .i64 x1,.int .i64 x2,S x3,S xt,S xn,.int .i64 xo,.slice a xa.length c] 38));have HF2:=aB (HF1.o.bl HB1.o);obtain⟨⟨i0,i1,i2,i3,i4,i5,i6,i7⟩,f0,f2,f3,f4,f5,f6,f7,f8⟩:=eight HF1.o.x;go_wp2;obtain⟨⟨q0,q1,q2,q3,q4,q5,q6,q7⟩,-⟩:=eight ((aW (set8 w1 (W.heap.size+1) (.int .i64 xk) (.int .i64 x1) (.int .i64 x2) (S x3) (S xt) (S xn) (.int .i64 xo) (.slice a xa.length c)) (.cells #[.int .i64 xk,.int .i64 x1,.int .i64 x2,S x3,S xt,S xn,.int .i64 xo,.slice a xa.length c] 38) (by rw[zU];omega)).trans (bO HF1.o.x (.int .i64 xk) (.int .i64 x1) (.int .i64 x2) (S x3) (S xt) (S xn) (.int .i64 xo) (.slice a xa.length c)));refine bodyPost_ret (v:=EV xk (x1,x2,x3) xt xn xo (.slice a xa.length c)) (by simp[results,results252,go_sem,q0,q1,q2,q3,q4,q5,q6,q7]) rfl ?_;have hg9:=vU (uY HF1.o.grown (b:=W.heap.size+1) aE (.int .i64 xk) (.int .i64 x1) (.int .i64 x2) (S x3) (S xt) (S xn) (.int .i64 xo) (.slice a xa.length c)) (.cells #[.int .i64 xk,.int .i64 x1,.int .i64 x2,S x3,S xt,S xn,.int .i64 xo,.slice a xa.length c] 38);have hs9:=(HS1.o.set8 (b:=W.heap.size+1) aE aE (.int .i64 xk) (.int .i64 x1) (.int .i64 x2) (S x3) (S xt) (S xn) (.int .i64 xo) (.slice a xa.length c)).bl ((Bl.refl _).alloc (.cells #[.int .i64 xk,.int .i64 x1,.int .i64 x2,S x3,S xt,S xn,.int .i64 xo,.slice a xa.length c] 38));have hr9:=(HA1.o.set8' (b:=W.heap.size+1) (fun i (hi:_<=i)=>by omega) (.int .i64 xk) (.int .i64 x1) (.int .i64 x2) (S x3) (S xt) (S xn) (.int .i64 xo) (.slice a xa.length c)).bl ((Bl.refl _).alloc (.cells #[.int .i64 xk,.int .i64 x1,.int .i64 x2,S x3,S xt,S xn,.int .i64 xo,.slice a xa.length c] 38));exact d2o.yes hg9 hs9 HE.o (e3d (tT.low hr9 aE))
 ·have HE:=aB (show R= .bad c from by rw[HR.o];unfold d3j;rw[hr]);have HS1:=aB hs;clear hg1 hr hs;have hb:(c==0)=false:=by rcases hc with rfl|rfl<;>rfl
  go_wp2_with fail
  (with_reducible refine(d3t _ _).mono ?_)
  rintro e w' ⟨rfl,rfl⟩;go_wp2;exact⟨rfl,d2o.no (dA HF1.o.grown (gI ((Bl.refl w1).alloc _) _)) (HS1.o.bl ((Bl.refl w1).alloc _)) (by rcases hc with h|h<;>simp[h]) HE.o⟩
end
section
theorem e6v:(prog.info? 103).map (fun i=>(i.zero,i.size,i.bytes))=some (some (.agg #[.bool false,S [],.int .i64 0,.int .i64 0,.int .i64 0,S [],S [],S [],.int .i64 0,.slice none 0 0,S []]),11,144):=by kernel_rfl
theorem e4c{o:Oper}{a:Act}{w:World}{K:Act->World->Prop}{Q:Exit->Act->World->Prop}(s x:Operand)(ho:o.op= .call {callee:= .builtin .append,args:= #[s,x],argTypes:= #[29,29]})
  (base:Nat) (v:Value) (acc:List (It×Value)) (hs:a.eval s=v) (hown:w.ownsRow base 103 11 v acc.length (d4w fIt acc)) (b:Nat) (y:It) (a2:Option Addr) (n2 c2:Nat) (hx:a.eval x= .slice (some ⟨b,0,none⟩) 1 1) {t:TypeId}
  (hb:w.heap[b]?=some (.cells (fIt.cells y (.slice a2 n2 c2)).toArray t (0,0))) (hfew:acc.length<=1000000) (hbase:base<=w.heap.size)
  (h:∀v' w',w'.ownsRow base 103 11 v' (acc.length+1) (d4w fIt (acc++[(y,.slice a2 n2 c2)]))->w.grownBy w' v.ownBlock->(v'.ownBlock=v.ownBlock\/v'.ownBlock=some w.heap.size)->K (a.put o.dst v') w'):Oper.wp prog o a w K Q:=by
 obtain⟨i,hi,hz0,hz1,hz2⟩:∃i,prog.info? 103=some i/\i.zero=some (.agg #[.bool false,S [],.int .i64 0,.int .i64 0,.int .i64 0,S [],S [],S [],.int .i64 0,.slice none 0 0,S []])/\i.size=11/\i.bytes=144:=by
  cases hi:prog.info? 103 with
  |none=>have:=e6v;rw[hi] at this;cases this
  |some i=>
   have:=e6v;rw[hi] at this;simp only[lX,Option.some.injEq,Prod.mk.injEq] at this;exact⟨i,rfl,this.1,this.2.1,this.2.2⟩
 obtain⟨v',w',hr,h2,h3,h4,h5⟩:=run_append_own_at (P:=prog) w base 29 o.type 103 i (.agg #[.bool false,S [],.int .i64 0,.int .i64 0,.int .i64 0,S [],S [],S [],.int .i64 0,.slice none 0 0,S []]) 11 144 underlying29 hi hz0 hz1 hz2 rfl ae v acc.length (d4w fIt acc) hown ⟨b,0,none⟩ 1 1 (fIt.cells y (.slice a2 n2 c2)) rfl
  (by
   intro j u hj;have:w.cell? ⟨b,0+j,none⟩=some u:=by
    rw[aG hb,gD,<-hj];simp
   have e:(⟨b,0,none⟩:Addr).add j=⟨b,0+j,none⟩:=(by simp[dY];intro h;exact h.symm);rw[e];exact this)
  (by intro u hu;simp[fIt,qD] at hu;rcases hu with rfl|rfl|rfl|rfl|rfl|rfl|rfl|rfl|rfl|rfl|rfl<;>rfl) cG aE hbase
 unfold Oper.wp execOp;simp only[ho,resolve,invoke,builtin,Sem.run_bind,Sem.run_pure,Result.andThen_ok,List.map_toArray,kP,qZ,hs,hx,hr];refine h v' w' ?_ h3 h5;rw[d6a];exact h2
theorem d4p{ops:Array Oper}{rest:List Oper}{o:Oper}{a:Act}{w:World}{Q:Exit->Act->World->Prop}(hgd:o.guard=none)(s x:Operand)(ho:o.op= .call {callee:= .builtin .append,args:= #[s,x],argTypes:= #[29,29]})
  (base:Nat) (v:Value) (acc:List (It×Value)) (hs:a.eval s=v) (hown:w.ownsRow base 103 11 v acc.length (d4w fIt acc)) (b:Nat) (y:It) (a2:Option Addr) (n2 c2:Nat) (hx:a.eval x= .slice (some ⟨b,0,none⟩) 1 1) {t:TypeId}
  (hb:w.heap[b]?=some (.cells (fIt.cells y (.slice a2 n2 c2)).toArray t (0,0))) (hfew:acc.length<=1000000) (hbase:base<=w.heap.size)
  (h:∀v' w',w'.ownsRow base 103 11 v' (acc.length+1) (d4w fIt (acc++[(y,.slice a2 n2 c2)]))->w.grownBy w' v.ownBlock->(v'.ownBlock=v.ownBlock\/v'.ownBlock=some w.heap.size)->wpList prog ops Q rest (a.put o.dst v') w'):wpList prog ops Q (o::rest) a w:=
 wpList_plain hgd fun _ hK=>e4c s x ho base v acc hs hown b y a2 n2 c2 hx hb hfew hbase fun v' w' h1 h2 h3=>hK _ _ (h v' w' h1 h2 h3)
end
section
structure But(b:Nat)(A B:World):Prop where
 size:B.heap.size=A.heap.size
 same:∀i,i≠b->B.heap[i]?=A.heap[i]?
 grown:A.grownBy B (some b)
theorem But.refl(b:Nat)(A:World):But b A A:=⟨rfl,fun _ _=>rfl,rfl,rfl,rfl,aH _,fun _ _ _=>rfl⟩
theorem But.set{b:Nat}{A B:World}(h:But b A B)(i:Nat)(v:Value):But b A (B.setCell ⟨b,i,none⟩ v):=
 ⟨by simp[h.size],fun j hj=>(aM _ ⟨b,i,none⟩ _ _ hj).trans (h.same j hj),dA h.grown (qA b i v)⟩
theorem iV.but{b:Nat}{A B:World}{bs g cap k:Nat}{ts:List Tok}(h:iV A bs g cap ts k)(hb:But b A B)(h1:bs≠b)(h2:g≠b):iV B bs g cap ts k:=h.keep (hb.same bs h1) (hb.same g h2)
theorem bG.but{b:Nat}{A B:World}{p:Nat->Prop}{sv:Value}{l:List Ex}(h:bG p A sv l)(hb:But b A B)(hp:∀i,p i->i≠b):bG p B sv l:=h.keep (fun _ h=>h) fun i hi _=>hb.same i (hp i hi)
theorem d2p.but{α:Type}{F:Form α}{b:Nat}{A B:World}{p:Nat->Prop}{sv:Value}{l:List α}(h:d2p F p A sv l)(hb:But b A B)(hp:∀i,p i->i≠b):d2p F p B sv l:=h.keep dk (fun _ h=>h) fun i hi _=>hb.same i (hp i hi)
theorem d2o.openE{n bs g cap:Nat}{ts:List Tok}{W:World}{r:d2u Ex}{e:Ending}{w':World}(h:d2o (d7p fEx n) bs g cap ts W r e w'):
  W.grownBy w' (some bs)/\∃k',iV w' bs g cap ts k'/\((∃xk x1 x2 x3 xt xn xo xa asv csv,r= .good k' (.mk xk (x1,x2,x3) xt xn xo xa)/\tT n w' (.slice asv xa.length csv) xa/\e= .returned (EV xk (x1,x2,x3) xt xn xo (.slice asv xa.length csv)))\/(∃c,(c=260\/c=261\/c=270)/\r= .bad c/\e=Pan c)):=by
 obtain⟨hg,k',hs,h⟩:=h;refine⟨hg,k',hs,h.imp ?_ id⟩;rintro⟨⟨xk,⟨x1,x2,x3⟩,xt,xn,xo,xa⟩,v,hr,⟨s,rfl,hA⟩,rfl⟩;obtain⟨a,c,rfl⟩:=hA.shape;exact⟨_,_,_,_,_,_,_,_,_,_,hr,hA,rfl⟩
def d5y(b:Nat):World->Nat->List Value->World
 |A,_,[]=>A
 |A,i,v::r=>d5y b (A.setCell ⟨b,i,none⟩ v) (i+1) r
theorem d7f{b:Nat}{T:TypeId}:∀(vs:List Value) (A:World) (pre old:List Value),A.heap[b]?=some (.cells (pre++old).toArray T (0,0))->old.length=vs.length->(d5y b A pre.length vs).heap[b]?=some (.cells (pre++vs).toArray T (0,0))
 |[],A,pre,old,h,hl=>by
  obtain rfl:old=[]:=lM hl;exact h
 |v::r,A,pre,[],h,hl=>by cases hl
 |v::r,A,pre,o::old,h,hl=>by
  have h1:=lN h pre.length v;have e:(pre++o::old).toArray.setIfInBounds pre.length v=((pre++[v])++old).toArray:=aa;rw[e] at h1;have h2:=d7f r _ (pre++[v]) old h1 (by simpa using hl);rw[bD] at h2;show(d5y b (A.setCell ⟨b,pre.length,none⟩ v) (pre.length+1) r).heap[b]?=_;simpa using h2
theorem d4i{b:Nat}{A:World}:∀(vs:List Value) (B:World) (i:Nat),But b A B->But b A (d5y b B i vs)
 |[],_,_,h=>h
 |v::r,_,i,h=>d4i r _ (i+1) (h.set i v)
theorem d6q{b:Nat}{A:World}{q:Option Nat}(hb:A.heap.size<=b):∀(vs:List Value) (B:World) (i:Nat),A.grownBy B q->A.grownBy (d5y b B i vs) q
 |[],_,_,h=>h
 |v::r,_,i,h=>d6q hb r _ (i+1) (dP h i hb v)
theorem FrB.all{W A:World}{bs:Nat}{T:TypeId}{cs:Array Value}(h:FrB W A bs T cs)(vs:List Value)(hl:cs.size=vs.length):FrB W (d5y (W.heap.size+1) A 0 vs) bs T vs.toArray:=by
 have hb:=d4i (b:=W.heap.size+1) vs A 0 (But.refl _ A);exact⟨d6q aE vs A 0 h.grown,(hb.same _ aE).trans h.r,by simpa using d7f vs A [] cs.toList (by simpa using h.x) (by simpa using hl)⟩
end
section
theorem But.row(g:Nat)(w:World)(cs:Array Value):But g w (w.setRow g cs):=⟨by simp,fun i hi=>setRow_other w g i cs hi,rfl,rfl,rfl,by simp,fun i _ hi=>setRow_other w g i cs (fun e=>hi (by rw[e]))⟩
theorem But.from{b:Nat}{W A B:World}{q:Option Nat}(h:W.grownBy A q)(hb:But b A B)(hW:W.heap.size<=b):W.grownBy B q:=
 ⟨hb.grown.1.trans h.1,hb.grown.2.trans h.2,hb.grown.3.trans h.3,jH h.4 hb.grown.4,fun i hi hq=>(hb.same i aE).trans (h.block i hi hq)⟩
theorem FrB.but{W A B:World}{bs:Nat}{T:TypeId}{cs cs':Array Value}(h:FrB W A bs T cs)(hb:But (W.heap.size+1) A B)(hx:B.heap[W.heap.size+1]?=some (.cells cs' T (0,0))):FrB W B bs T cs':=
 ⟨But.from h.grown hb aE,(hb.same _ aE).trans h.r,hx⟩
section
variable {P:Program}
theorem d7g(w:World)(g o:Nat)(ty:TypeId)(v:Value)(vs cur:List Value)(hv:v.cells=vs.toArray)(t:TypeId)(hg:w.heap[g]?=some (.cells cur.toArray t (0,0)))(hl:o+vs.length<=cur.length)(hi:(P.info? ty).map (·.size)=some vs.length)(h1:∀v∈vs,v.oneCell'=true):
  (storeVar ty ⟨g,o,none⟩ v).run P w= .ok () (w.setRow g (cur.take o++vs++cur.drop (o+vs.length)).toArray):=by
 have h:=run_storeCells_at P g o t vs 0 cur.toArray w hg (by simpa using hl) h1;cases hq:P.info? ty with
 |none=>simp[hq] at hi
 |some i=>
  have hs:vs.length=i.size:=(by simp[hq] at hi;omega);simp only[Nat.add_zero] at h;simp[storeVar,sizeOf,typeInfo,hq,hv,hs,h]
theorem bC{o:Oper}{a:Act}{w:World}{K:Act->World->Prop}{Q:Exit->Act->World->Prop}{ty:TypeId}{x y:Operand}(ho:o.op= .store ty x y){g i:Nat}{vs:List Value}(hx:a.eval x= .pointer (some ⟨g,i,none⟩))(hy:(a.eval y).cells=vs.toArray){t:TypeId}{old:List Value}(new:List Value)
  (hg:w.heap[g]?=some (.cells old.toArray t (0,0))) (hn:old.take i++vs++old.drop (i+vs.length)=new) (hl:decide (i+vs.length<=old.length)=true) (hi:(P.info? ty).map (·.size)=some vs.length) (h1:vs.all (·.oneCell')=true)
  (h:∀w',But g w w'->w'.heap[g]?=some (.cells new.toArray t (0,0))->K (a.put o.dst undef) w'):o.wp P a w K Q:=by
 subst hn;unfold Oper.wp execOp;simp only[ho,hx,Instr.storeAt,Instr.sureAddr,Sem.run_bind,Sem.run_pure,Result.andThen_ok,d7g w g i ty (a.eval y) vs old hy t hg (of_decide_eq_true hl) hi (jA.1 h1)];exact h _ (But.row g w _) (setRow_heap w g _ _ t _ hg)
theorem bA{ops:Array Oper}{rest:List Oper}{o:Oper}{a:Act}{w:World}{Q:Exit->Act->World->Prop}(hgd:o.guard=none){ty:TypeId}{x y:Operand}(ho:o.op= .store ty x y){g i:Nat}{vs:List Value}(hx:a.eval x= .pointer (some ⟨g,i,none⟩))(hy:(a.eval y).cells=vs.toArray){t:TypeId}{old:List Value}(new:List Value)
  (hg:w.heap[g]?=some (.cells old.toArray t (0,0))) (hn:old.take i++vs++old.drop (i+vs.length)=new) (hl:decide (i+vs.length<=old.length)=true) (hi:(P.info? ty).map (·.size)=some vs.length) (h1:vs.all (·.oneCell')=true)
  (h:∀w',But g w w'->w'.heap[g]?=some (.cells new.toArray t (0,0))->wpList P ops Q rest (a.put o.dst undef) w'):wpList P ops Q (o::rest) a w:=
 wpList_plain hgd fun _ hK=>bC ho hx hy new hg hn hl hi h1 fun w' hb h2=>hK _ _ (h w' hb h2)
end
theorem d3l:(prog.info? 103).map (·.size)=some 11:=by kernel_rfl
theorem d7e:(prog.info? 26).map (·.size)=some 2:=by kernel_rfl
theorem d4b:(prog.info? 38).map (·.size)=some 8:=by kernel_rfl
theorem tC:(prog.info? 41).map (·.size)=some 24:=by kernel_rfl
abbrev zIt:Array Value:= #[.bool false,S [],.int .i64 0,.int .i64 0,.int .i64 0,S [],S [],S [],.int .i64 0,.slice none 0 0,S []]
theorem d6f{ts:List Tok}{k:Nat}(h1:bH ts k [[42]]=none)(h2:(mM ts k).bind (fun p=>(bH ts p.2 [[46],[42]]).map fun k2=>(p.1,k2))=none):d3x ts k=(d3j ts k).bind fun k1 x=>(asR ts k1).bind fun k2 a=> .good k2 ⟨false,[],x,a⟩:=by
 unfold d3x;rw[h1];simp only;rw[h2]
theorem e3h{W:World}{bs g cap k:Nat}{ts:List Tok}(h:iV W bs g cap ts k)(hT:lC ts):eg 203 #[RV bs] W (d2o (d7p fIt W.heap.size) bs g cap ts W (d3x ts k)):=by
 obtain⟨R,HR⟩:∃R,Hid (R=d3x ts k):=⟨_,rfl⟩
 rw[<-HR.o];have HB0:=aB (((Bl.refl W).alloc (.cells #[.pointer (some ⟨bs,0,none⟩)] 241)).alloc (.cells zIt 103));have HF0:=aB (FrB.start W bs 103 zIt);have HTK:=aB hT;have H:=aB h;have hbl:=h.lt';have hgl:=h.gl;clear h hT;cases ht:bH ts k [[42]] with
 |some k1=>
  have HT:=aB ht;have HE:=aB (show R= .good k1 ⟨true,[],zeroE,[]⟩ from by rw[HR.o];unfold d3x;rw[ht]);clear ht;go_enter func203,ntmps203;go_wp2_with fail;refine(jD (H.o.bl HB0.o) [[42]] HT.o _ 1 _ _ rfl rfl aa aa).mono ?_;rintro e w1 ⟨rfl,hg1,hs1⟩;have HF1:=aB (HF0.o.next hbl hg1);have HS1:=aB hs1;clear hg1 hs1;go_wp2_with (refine bA rfl rfl rfl rfl (fIt.cells ⟨true,[],zeroE,[]⟩ (.slice none 0 0)) (HF1).o.x rfl rfl d3l rfl ?_)
  intro w9 hB9 hX9;go_wp2;refine bodyPost_ret (v:= .agg (fIt.cells ⟨true,[],zeroE,[]⟩ (.slice none 0 0)).toArray) (results_cell_row (p:=2) (ty:=103) rfl _ _ (W.heap.size+1) 103 _ (0,0) _ rfl hX9 underlying103 rfl d3l) rfl ?_;exact d2o.yes ((HF1).o.but hB9 hX9).grown ((HS1).o.but hB9 aE aE) HE.o ⟨_,rfl,bG.nil _ _ _ _⟩
 |none=>
  have HT:=aB ht;clear ht;cases hn:mM ts k with
  |none=>
   have HN:=aB hn;have HQ:=aB (show(mM ts k).bind (fun p=>(bH ts p.2 [[46],[42]]).map fun k2=>(p.1,k2))=none from by rw[hn];rfl);clear hn;go_enter func203,ntmps203;go_wp2_with fail;refine(kM (H.o.bl HB0.o) [[42]] HT.o _ 1 _ _ rfl rfl aa aa).mono ?_;rintro e w1 ⟨rfl,hg1,hs1⟩;have HF1:=aB (HF0.o.next hbl hg1);have HS1:=aB hs1;have a0:=cK HF1.o.r;clear hg1 hs1;go_wp2_with fail
   (with_reducible refine(b9a HS1.o).mono ?_)
   rintro e w' ⟨rfl,rfl⟩;go_wp2_with fail;refine(a8a HS1.o HN.o).mono ?_;rintro e w2 ⟨rfl,hg2,hs2⟩;have HF2:=aB (HF1.o.next hbl hg2);have HS2:=aB hs2;clear hg2 hs2 a0;have a0:=cK HF2.o.r;have HE:=aB (HR.o.trans (d6f HT.o HQ.o));go_wp2_with fail;refine(b4r (HS2).o (k:Int)).mono ?_;rintro e wc ⟨hgc,(⟨-,-,rfl,hsc⟩|⟨hn,-,-⟩)⟩;rotate_left
   ·exact absurd ⟨by omega,by have:=H.o.lt;omega⟩ hn
   rw[Int.toNat_natCast] at hsc;have HFC:=aB ((HF2).o.next hbl hgc);have HSC:=aB hsc;clear hgc hsc;go_wp2_with fail;refine(bM (fun B=>B.heap[W.heap.size]?=some (.cells #[.pointer (some ⟨bs,0,none⟩)] 241 (0,0))) ((.take 0 (.take 2 (.one 1 (.one 3 (.take 4 (.one 5 .done))))))) af af af (fun c a d v w h=>by cases d<;>exact h) ((HFC.o.bl ((Bl.refl _).drew)).r) ?_);intro wd HWD hY;iterate 2 (refine cT ?_)
   refine aL rfl (fun K hK=>?_);go_simp;(refine(d3w (HSC.o.bl HWD.o) HTK.o).mono ?_;intro e w2 hp;obtain⟨hg2,k2,hs2,hcase⟩:=hp.openE;have HF2:=aB ((HFC.o.bl HWD.o).next hbl hg2);have hz2:=HF2.o.size;have hzd:=HWD.o.size;have hzc:=HFC.o.size;rcases hcase with⟨xk,x1,x2,x3,xt,xn,xo,xa,asv,csv,hr2,hA,rfl⟩|⟨c,hc,hr2,rfl⟩;rotate_left;(· go_wp2;exact⟨rfl,d2o.no HF2.o.grown hs2 hc (by rw[HE.o,hr2];rfl)⟩);have HS2:=aB hs2;have HR2:=aB hr2;have HA2:=aB (show bG (fun b=>W.heap.size+2<=b) w2 (.slice asv xa.length csv) xa from hA.of fun b _ (hb:_<=b)=>by omega);clear hp hg2 hs2 hr2 hA);go_wp2_with fail;refine hK.o _ _ (eA) ?_;clear hY hK K;intro hY;refine aL rfl (fun K hK=>?_);go_simp;(refine(e0g HS2.o).mono ?_;intro e w3 hp;obtain⟨hg3,k3,hs3,hcase⟩:=hp;have HF3:=aB (HF2.o.next hbl hg3);rcases hcase with⟨al,v,hr3,rfl,rfl⟩|⟨c,hc,hr3,rfl⟩;rotate_left;(· go_wp2;exact⟨rfl,d2o.no HF3.o.grown hs3 hc (by rw[HE.o,HR2.o];simp only[d2u.bind];rw[hr3])⟩);have HS3:=aB hs3;have HR3:=aB hr3;have HA3:=aB (HA2.o.grown hg3 (fun h:_<=_=>by omega));clear hg3 hs3 hr3);go_wp2_with fail;refine hK.o _ _ (eA) ?_;clear hY hK K;intro hY;refine cT ?_;refine aL rfl (fun K hK=>?_);rw[if_pos ab];refine bC rfl rfl rfl (fIt.cells ⟨false,[],.mk xk (x1,x2,x3) xt xn xo xa,al⟩ (.slice asv xa.length csv)) HF3.o.x rfl rfl d3l rfl ?_;intro w4 hB4 hX4;refine hK.o _ _ ((hB4.same _ aE).trans HF3.o.r) (fun hY2=>?_);clear hY hK K;have hY:=hY2;clear hY2;refine fO ?_;go_wp2;refine bodyPost_ret (v:= .agg (fIt.cells ⟨false,[],.mk xk (x1,x2,x3) xt xn xo xa,al⟩ (.slice asv xa.length csv)).toArray) (results_cell_row (p:=2) (ty:=103) rfl _ _ (W.heap.size+1) 103 _ (0,0) _ rfl hX4 underlying103 rfl d3l) rfl ?_;exact d2o.yes (HF3.o.but hB4 hX4).grown (HS3.o.but hB4 aE aE) (by rw[HE.o,HR2.o];simp only[d2u.bind];rw[HR3.o]) ⟨_,rfl,(HA3.o.but hB4 (fun i hi=>by omega)).of fun b _ hb=>by omega⟩
  |some p=>
   obtain⟨nm,k1⟩:=p;have HN:=aB hn;cases hq:bH ts k1 [[46],[42]] with
   |none=>
    have HTQ:=aB hq;have HQ:=aB (show(mM ts k).bind (fun p=>(bH ts p.2 [[46],[42]]).map fun k2=>(p.1,k2))=none from by rw[hn];simp only[bU];rw[hq];rfl);clear hn hq;go_enter func203,ntmps203;go_wp2_with fail;refine(kM (H.o.bl HB0.o) [[42]] HT.o _ 1 _ _ rfl rfl aa aa).mono ?_;rintro e w1 ⟨rfl,hg1,hs1⟩;have HF1:=aB (HF0.o.next hbl hg1);have HS1:=aB hs1;have a0:=cK HF1.o.r;clear hg1 hs1;go_wp2_with fail
    (with_reducible refine(b9a HS1.o).mono ?_)
    rintro e w' ⟨rfl,rfl⟩;go_wp2_with fail;refine(a3p HS1.o HN.o).mono ?_;rintro e w2 ⟨rfl,hg2,hs2⟩;have HF2:=aB (HF1.o.next hbl hg2);have HS2:=aB hs2;clear hg2 hs2 a0;have a0:=cK HF2.o.r;go_wp2_with fail;refine(kM HS2.o [[46],[42]] HTQ.o _ 2 _ _ rfl rfl aa aa).mono ?_;rintro e w3 ⟨rfl,hg3,hs3⟩;have HF3:=aB (HF2.o.next hbl hg3);have HS3:=aB hs3;clear hg3 hs3 a0;have a0:=cK HF3.o.r;have HE:=aB (HR.o.trans (d6f HT.o HQ.o));go_wp2_with fail;refine(b4r (HS3).o (k:Int)).mono ?_;rintro e wc ⟨hgc,(⟨-,-,rfl,hsc⟩|⟨hn,-,-⟩)⟩;rotate_left
    ·exact absurd ⟨by omega,by have:=H.o.lt;omega⟩ hn
    rw[Int.toNat_natCast] at hsc;have HFC:=aB ((HF3).o.next hbl hgc);have HSC:=aB hsc;clear hgc hsc;go_wp2_with fail;refine(bM (fun B=>B.heap[W.heap.size]?=some (.cells #[.pointer (some ⟨bs,0,none⟩)] 241 (0,0))) ((.take 0 (.take 2 (.one 1 (.one 3 (.take 4 (.one 5 .done))))))) af af af (fun c a d v w h=>by cases d<;>exact h) ((HFC.o.bl ((Bl.refl _).drew)).r) ?_);intro wd HWD hY;iterate 2 (refine cT ?_)
    refine aL rfl (fun K hK=>?_);go_simp;(refine(d3w (HSC.o.bl HWD.o) HTK.o).mono ?_;intro e w2 hp;obtain⟨hg2,k2,hs2,hcase⟩:=hp.openE;have HF2:=aB ((HFC.o.bl HWD.o).next hbl hg2);have hz2:=HF2.o.size;have hzd:=HWD.o.size;have hzc:=HFC.o.size;rcases hcase with⟨xk,x1,x2,x3,xt,xn,xo,xa,asv,csv,hr2,hA,rfl⟩|⟨c,hc,hr2,rfl⟩;rotate_left;(· go_wp2;exact⟨rfl,d2o.no HF2.o.grown hs2 hc (by rw[HE.o,hr2];rfl)⟩);have HS2:=aB hs2;have HR2:=aB hr2;have HA2:=aB (show bG (fun b=>W.heap.size+2<=b) w2 (.slice asv xa.length csv) xa from hA.of fun b _ (hb:_<=b)=>by omega);clear hp hg2 hs2 hr2 hA);go_wp2_with fail;refine hK.o _ _ (eA) ?_;clear hY hK K;intro hY;refine aL rfl (fun K hK=>?_);go_simp;(refine(e0g HS2.o).mono ?_;intro e w3 hp;obtain⟨hg3,k3,hs3,hcase⟩:=hp;have HF3:=aB (HF2.o.next hbl hg3);rcases hcase with⟨al,v,hr3,rfl,rfl⟩|⟨c,hc,hr3,rfl⟩;rotate_left;(· go_wp2;exact⟨rfl,d2o.no HF3.o.grown hs3 hc (by rw[HE.o,HR2.o];simp only[d2u.bind];rw[hr3])⟩);have HS3:=aB hs3;have HR3:=aB hr3;have HA3:=aB (HA2.o.grown hg3 (fun h:_<=_=>by omega));clear hg3 hs3 hr3);go_wp2_with fail;refine hK.o _ _ (eA) ?_;clear hY hK K;intro hY;refine cT ?_;refine aL rfl (fun K hK=>?_);rw[if_pos ab];refine bC rfl rfl rfl (fIt.cells ⟨false,[],.mk xk (x1,x2,x3) xt xn xo xa,al⟩ (.slice asv xa.length csv)) HF3.o.x rfl rfl d3l rfl ?_;intro w4 hB4 hX4;refine hK.o _ _ ((hB4.same _ aE).trans HF3.o.r) (fun hY2=>?_);clear hY hK K;have hY:=hY2;clear hY2;refine fO ?_;go_wp2;refine bodyPost_ret (v:= .agg (fIt.cells ⟨false,[],.mk xk (x1,x2,x3) xt xn xo xa,al⟩ (.slice asv xa.length csv)).toArray) (results_cell_row (p:=2) (ty:=103) rfl _ _ (W.heap.size+1) 103 _ (0,0) _ rfl hX4 underlying103 rfl d3l) rfl ?_;exact d2o.yes (HF3.o.but hB4 hX4).grown (HS3.o.but hB4 aE aE) (by rw[HE.o,HR2.o];simp only[d2u.bind];rw[HR3.o]) ⟨_,rfl,(HA3.o.but hB4 (fun i hi=>by omega)).of fun b _ hb=>by omega⟩
   |some k2=>
    have HTQ:=aB hq;have HE:=aB (show R= .good k2 ⟨true,nm,zeroE,[]⟩ from by rw[HR.o];unfold d3x;rw[HT.o];simp only;rw[hn];simp only[bU];rw[hq];rfl);clear hn hq;go_enter func203,ntmps203;go_wp2_with fail;refine(kM (H.o.bl HB0.o) [[42]] HT.o _ 1 _ _ rfl rfl aa aa).mono ?_;rintro e w1 ⟨rfl,hg1,hs1⟩;have HF1:=aB (HF0.o.next hbl hg1);have HS1:=aB hs1;have a0:=cK HF1.o.r;clear hg1 hs1;go_wp2_with fail
    (with_reducible refine(b9a HS1.o).mono ?_)
    rintro e w' ⟨rfl,rfl⟩;go_wp2_with fail;refine(a3p HS1.o HN.o).mono ?_;rintro e w2 ⟨rfl,hg2,hs2⟩;have HF2:=aB (HF1.o.next hbl hg2);have HS2:=aB hs2;clear hg2 hs2 a0;have a0:=cK HF2.o.r;go_wp2_with fail;refine(jD HS2.o [[46],[42]] HTQ.o _ 2 _ _ rfl rfl aa aa).mono ?_;rintro e w3 ⟨rfl,hg3,hs3⟩;have HF3:=aB (HF2.o.next hbl hg3);have HS3:=aB hs3;clear hg3 hs3 a0;go_wp2_with (refine bA rfl rfl rfl rfl (fIt.cells ⟨true,nm,zeroE,[]⟩ (.slice none 0 0)) (HF3).o.x rfl rfl d3l rfl ?_)
    intro w9 hB9 hX9;go_wp2;refine bodyPost_ret (v:= .agg (fIt.cells ⟨true,nm,zeroE,[]⟩ (.slice none 0 0)).toArray) (results_cell_row (p:=2) (ty:=103) rfl _ _ (W.heap.size+1) 103 _ (0,0) _ rfl hX9 underlying103 rfl d3l) rfl ?_;exact d2o.yes ((HF3).o.but hB9 hX9).grown ((HS3).o.but hB9 aE aE) HE.o ⟨_,rfl,bG.nil _ _ _ _⟩
end
section
section
variable {P:Program}
theorem d9p:∀(vs pre post:List Value),post.length=vs.length->(vs.zipIdx pre.length).foldl (fun(cs:Array Value) (p:Value×Nat)=>cs.setIfInBounds (0+p.2) p.1) (pre++post).toArray=(pre++vs).toArray
 |[],pre,post,h=>by
  obtain rfl:post=[]:=lM h;rfl
 |v::r,pre,[],h=>by cases h
 |v::r,pre,o::post,h=>by
  rw[List.zipIdx_cons,List.foldl_cons];have e:(pre++o::post).toArray.setIfInBounds (0+pre.length) v=((pre++[v])++post).toArray:=aa;show(r.zipIdx (pre.length+1)).foldl _ ((pre++o::post).toArray.setIfInBounds (0+pre.length) v)=_;rw[e];have h2:=d9p r (pre++[v]) post bb;rw[bD] at h2;simpa using h2
theorem e0y{v:Value}{vs:List Value}{n:Nat}{cells:Array Value}(hv:v.cells=vs.toArray)(hn:vs.length=n)(hc:cells.size=n):Instr.fill (fun i=>some (i * n,n)) cells [(0,v)]=some vs.toArray:=by
 obtain⟨l⟩:=cells;have hl:l.length=vs.length:=(by simpa[hn] using hc);have h:=d9p vs [] l hl;simp only[cB,bL] at h;have hs:vs.toArray.size=n:=(by simpa using hn);simp only[Instr.fill,hv,Nat.zero_mul];rw[if_neg (by simp[hn,hl])]
 congr 1
 refine Eq.trans ?_ h;simp
theorem d8l{ops:Array Oper}{rest:List Oper}{o:Oper}{a:Act}{w:World}{Q:Exit->Act->World->Prop}(hgd:o.guard=none){t e:TypeId}{y:Operand}(ho:o.op= .buildSlice t 1 #[(0,y)])(ht:P.underlying t=some (.slice e)){vs:List Value}(hy:(a.eval y).cells=vs.toArray)
  (hi:(P.info? e).map (fun i=>(i.zero.isSome,i.size))=some (true,vs.length)) (h0:decide (0<vs.length/\vs.length<=1000)=true)
  (h:wpList P ops Q rest (a.put o.dst (.slice (some ⟨w.heap.size,0,none⟩) 1 1)) (w.alloc (.cells vs.toArray e))):wpList P ops Q (o::rest) a w:=by
 obtain⟨i,hi,z,hz,hs⟩:∃i,P.info? e=some i/\∃z,i.zero=some z/\i.size=vs.length:=by
  cases hq:P.info? e with
  |none=>rw[hq] at hi;cases hi
  |some i=>
   rw[hq] at hi;simp only[lX,Option.some.injEq,Prod.mk.injEq] at hi;obtain⟨z,hz⟩:=Option.isSome_iff_exists.1 hi.1;exact⟨i,rfl,z,hz,hi.2⟩
 refine wpList_plain hgd fun K hK=>?_;have h0':=of_decide_eq_true h0;unfold Oper.wp execOp;simp only[ho,Instr.buildSlice];have hne:vs≠[]:=fun e=>(by rw[e] at h0';exact absurd h0'.1 ae);simp[run_underlying ht,sizeOf,typeInfo,zeroValue,hi,hz,hs,newRow];rw[if_neg aE,if_neg hne,e0y hy rfl aa];simp[newObj];exact hK _ _ h
end
end
section
theorem d2o.openI{n bs g cap:Nat}{ts:List Tok}{W:World}{r:d2u It}{e:Ending}{w':World}(h:d2o (d7p fIt n) bs g cap ts W r e w'):
  W.grownBy w' (some bs)/\∃k',iV w' bs g cap ts k'/\((∃st tt xk x1 x2 x3 xt xn xo xa asv csv al,r= .good k' ⟨st,tt,.mk xk (x1,x2,x3) xt xn xo xa,al⟩/\tT n w' (.slice asv xa.length csv) xa/\
   e= .returned (.agg #[.bool st,S tt,.int .i64 xk,.int .i64 x1,.int .i64 x2,S x3,S xt,S xn,.int .i64 xo,.slice asv xa.length csv,S al]))\/(∃c,(c=260\/c=261\/c=270)/\r= .bad c/\e=Pan c)):=by
 obtain⟨hg,k',hs,h⟩:=h;refine⟨hg,k',hs,h.imp ?_ id⟩;rintro⟨⟨st,tt,⟨xk,⟨x1,x2,x3⟩,xt,xn,xo,xa⟩,al⟩,v,hr,⟨s,rfl,hA⟩,rfl⟩;obtain⟨a,c,rfl⟩:=hA.shape;exact⟨_,_,_,_,_,_,_,_,_,_,_,_,_,hr,hA,rfl⟩
structure FrL(W A:World)(bs:Nat):Prop where
 grown:W.grownBy A (some bs)
 r:A.heap[W.heap.size]?=some (.cells #[.pointer (some ⟨bs,0,none⟩)] 241 (0,0))
theorem FrL.size{W A:World}{bs:Nat}(h:FrL W A bs):W.heap.size<A.heap.size:=(aC.1 h.r).1
theorem FrL.next{W A B:World}{bs:Nat}(h:FrL W A bs)(hb:bs<W.heap.size)(hg:A.grownBy B (some bs)):FrL W B bs:=
 have hz:=h.size
 ⟨dA h.grown hg,(hg.block _ aE (fun e=>by injection e with e;omega)).trans h.r⟩
theorem FrL.bl{W A B:World}{bs:Nat}(h:FrL W A bs)(hb:Bl A B):FrL W B bs:=⟨dA h.grown (gI hb _),(hb.block _ h.size).trans h.r⟩
theorem FrL.start(W:World)(bs:Nat):FrL W (W.alloc (.cells #[.pointer (some ⟨bs,0,none⟩)] 241)) bs:=⟨gI ((Bl.refl W).alloc _) _,aN _ _⟩
theorem FrL.own{W A B:World}{bs:Nat}{r:Option Nat}(h:FrL W A bs)(hg:A.grownBy B r)(hr:∀j,r=some j->W.heap.size+1<=j):FrL W B bs:=
 have hz:=h.size
 ⟨⟨hg.1.trans h.grown.1,hg.2.trans h.grown.2,hg.3.trans h.grown.3,jH h.grown.4 hg.4,fun i hi hb=>(hg.block i aE (fun e=>by have:=hr i e.symm;omega)).trans (h.grown.block i hi hb)⟩,
  (hg.block _ aE (fun e=>by have:=hr _ e.symm;omega)).trans h.r⟩
abbrev e6k{α:Type}(F:Form α)(n:Nat)(w:World)(l:List α)(v:Value):Prop:=d2p F (fun b=>n<=b) w v l
theorem e1v{W:World}{bs g cap k:Nat}{ts:List Tok}(h:iV W bs g cap ts k)(hT:lC ts):eg 202 #[RV bs,.func (.func 203) #[RV bs] #[]] W (d2o (e6k fIt W.heap.size) bs g cap ts W (d3o ts (d3x ts) ts.length k [])):=by
 obtain⟨R,HR⟩:∃R,Hid (R=d3o ts (d3x ts) ts.length k []):=⟨_,rfl⟩
 rw[<-HR.o];have HL0:=aB (show d8b ts (d3x ts) R k [] from by rw[HR.o];exact d8b.start ts _ k);have HF0:=aB (FrL.start W bs);have HTK:=aB hT;have HS0:=aB (h.bl ((Bl.refl W).alloc (.cells #[.pointer (some ⟨bs,0,none⟩)] 241)));have hbl:=h.lt';have hgl:=h.gl;clear h hT;go_enter func202,ntmps202;go_wp2_with fail;go_loopw [4] (fun o wr=>∃(v0:Value) (kk:Nat) (acc:List (It×Value)),v0=o/\acc.length<=kk/\Hid (FrL W wr bs)/\Hid (iV wr bs g cap ts kk)/\Hid (wr.ownsRow (W.heap.size+1) 103 11 v0 acc.length (d4w fIt acc))/\
  Hid (∀q∈acc,bG (fun b=>W.heap.size+1<=b/\some b≠v0.ownBlock) wr q.2 (Form.ex fIt q.1).args)/\Hid (d8b ts (d3x ts) R kk (acc.map (·.1)))) (fun _ wr=>ts.length-tH wr bs)
 case atStart=>exact⟨_,k,[],rfl,dL _,HF0.o,HS0.o,d2l _ _ _ _,aB (fun q hq=>by cases hq),HL0.o⟩
 case round=>
  clear HF0 HS0 HL0 HR;obtain⟨v0,kk,acc,rfl,hak,HF,HS,HO,HTR,HL⟩:=hrel;have hkk:=HS.o.lt;have hfew:=HS.o.few;have hzr:=HF.o.size;have p0:=cK HF.o.r;have HP:Hid (∀k1 x,d3x ts kk= .good k1 x->kk<k1/\k1<ts.length):=fun k1 x h=>d6m HTK.o hkk h;have HST:=aB (HL.o.step hkk fun k1 x h=>(HP.o k1 x h).1);go_wp2_with fail;refine(e3h HS.o HTK.o).mono ?_;intro e w1 hp;obtain⟨hg1,k1,hs1,hcase⟩:=hp.openI;have hz1:=hg1.4;have HF1:=aB (HF.o.next hbl hg1);have HS1:=aB hs1;have HO1:=aB (pO HO.o hg1 aE);have HTR1:=aB (show ∀q∈acc,bG (fun b=>W.heap.size+1<=b/\some b≠v0.ownBlock) w1 q.2 (Form.ex fIt q.1).args from fun q hq=>(HTR.o q hq).grown hg1 (fun h=>by omega));have hlow:=aB HO.o.lt;clear hp p0 hg1 hs1;rcases hcase with⟨st,tt,xk,x1,x2,x3,xt,xn,xo,xa,asv,csv,al,hr,hA,rfl⟩|⟨c,hc,hr,rfl⟩
  rotate_left
  ·have HB:=aB (HST.o.1 c hr);clear hr;go_wp2;exact⟨rfl,d2o.no HF1.o.grown HS1.o hc HB.o⟩
  have HZ:=aB (show bG (fun b=>W.heap.size+1<=b/\some b≠v0.ownBlock) w1 (.slice asv xa.length csv) xa from hA.of fun b hl (hb:_<=b)=>⟨by omega,fun e=>by have:=(hlow.o b e.symm).2;omega⟩);have hlt1:=HP.o _ _ hr;have HG:=aB (HST.o.2 _ _ hr);clear hr hA;go_wp2_with (at_builtin;refine d4p rfl (.tmp 5) (.tmp 8) rfl (W.heap.size+1) v0 acc rfl (gY ((Bl.refl _).alloc _) HO1.o) w1.heap.size ⟨st,tt,.mk xk (x1,x2,x3) xt xn xo xa,al⟩ asv xa.length csv rfl (aN w1 _) aE am ?_)
  intro v' w6 hown6 hg6 hat;have HF6:=aB ((HF1.o.bl ((Bl.refl _).alloc _)).own hg6 (fun j e=>by have:=(hlow.o j e).1;omega));have HS6:=aB ((HS1.o.bl ((Bl.refl _).alloc _)).keep (hg6.block _ am (fun e=>by have:=(hlow.o _ e.symm).1;omega)) (hg6.block _ am (fun e=>by have:=(hlow.o _ e.symm).1;omega)));have HTR6:=aB (show ∀q∈acc++[((⟨st,tt,.mk xk (x1,x2,x3) xt xn xo xa,al⟩:It),.slice asv xa.length csv)],bG (fun b=>W.heap.size+1<=b/\some b≠v'.ownBlock) w6 q.2 (Form.ex fIt q.1).args from fun q hq=>by rcases iX.1 hq with hq|hq;exact((HTR1.o q hq).bl ((Bl.refl _).alloc _)).own hg6 (by simpa using hat);obtain rfl:=gQ.1 hq;exact(HZ.o.bl ((Bl.refl _).alloc _)).own hg6 (by simpa using hat));obtain⟨gn,cn,rfl⟩:=nG hown6;have HOW6:=aB hown6;have hz6:=HF6.o.size;have a0:=cK HF6.o.r;clear hown6 hg6 hat;cases ht:bH ts k1 [[44]] with
  |some k2=>
   have hk2:=kS HTK.o hlt1.2 ht;have HL6:=aB (HG.o.1 k2 ht hk2.1);have HT:=aB ht;clear ht;go_wp2_with fail;refine(jD HS6.o [[44]] HT.o _ 1 _ _ rfl rfl aa aa).mono ?_;rintro e w7 ⟨rfl,hg7,hs7⟩;have HG7:=aB hg7;have HS7:=aB hs7;clear hg7 hs7;go_wp2;go_roundw
   case rel=>exact⟨_,k2,acc++[((⟨st,tt,.mk xk (x1,x2,x3) xt xn xo xa,al⟩:It),.slice asv xa.length csv)],rfl,by simp;omega,HF6.o.next hbl HG7.o,HS7.o,by rw[bD];exact pO HOW6.o HG7.o aE,aB (fun q hq=>(HTR6.o q hq).grown HG7.o (fun h=>by omega)),by rw[kW];exact HL6.o⟩
   case measure=>have n1:=kY HS.o;have n2:=kY HS7.o;rw[n1,n2];omega
  |none=>
   have HE:=aB (HG.o.2 ht);have HT:=aB ht;clear ht;go_wp2_with fail;refine(kM HS6.o [[44]] HT.o _ 1 _ _ rfl rfl aa aa).mono ?_;rintro e w7 ⟨rfl,hg7,hs7⟩;have HG7:=aB hg7;have HS7:=aB hs7;clear hg7 hs7;go_wp2;go_ret;have hO7:=pO HOW6.o HG7.o aE;have hl7:=hO7.lt gn rfl;have hrows:=d5z (F:=fIt) (l:=acc++[((⟨st,tt,.mk xk (x1,x2,x3) xt xn xo xa,al⟩:It),.slice asv xa.length csv)]) (p:=fun b=>W.heap.size<=b) (W:=w7) (base:=W.heap.size+1) (g:=gn) (cap:=cn) (T:=103) (by rw[bD];exact hO7) aE hl7.2 (fun q hq=>((HTR6.o q hq).grown HG7.o (fun h=>by omega)).of fun b _ hb=>by have:=hb.1;omega);rw[bD,kW] at hrows;exact d2o.yes (HF6.o.next hbl HG7.o).grown HS7.o HE.o hrows
end
section
abbrev d2i:Value:= .slice none 0 0
def quC(q:Qu)(si sj sw sg sh so:Value):List Value:=
 [.bool q.distinct,si,S q.frm.t,S q.frm.al,sj,.int .i64 q.wher.k,.int .i64 q.wher.v.1,.int .i64 q.wher.v.2.1,S q.wher.v.2.2,S q.wher.t,S q.wher.n,.int .i64 q.wher.o,sw,sg,
  .int .i64 q.having.k,.int .i64 q.having.v.1,.int .i64 q.having.v.2.1,S q.having.v.2.2,S q.having.t,S q.having.n,.int .i64 q.having.o,sh,so,.int .i64 q.limit]
abbrev e4e(n:Nat):World->Qu->Value->Prop:=d4m fun b=>n<=b
theorem d2p.of{α:Type}{F:Form α}{p q:Nat->Prop}{W:World}{sv:Value}{l:List α}(h:d2p F p W sv l)(hm:∀b,b<W.heap.size->p b->q b):d2p F q W sv l:=by
 obtain⟨a,cap,s,e,h⟩:=h;refine⟨a,cap,s,e,fun j x hx=>?_⟩;obtain⟨b,off,ea,hb,hl,hc,hr⟩:=h j x hx;exact⟨b,off,ea,hm b hl hb,hl,hc,hr.of hm⟩
theorem d2t.of{p r:Nat->Prop}{W:World}{q:Qu}{si sj sw sg sh so:Value}(h:d2t p W q si sj sw sg sh so)(hm:∀b,b<W.heap.size->p b->r b):d2t r W q si sj sw sg sh so:=
 ⟨h.items.of hm,h.joins.of hm,h.wher.of hm,h.group.of hm,h.having.of hm,h.orders.of hm⟩
theorem d2t.but{p:Nat->Prop}{b:Nat}{A B:World}{q:Qu}{si sj sw sg sh so:Value}(h:d2t p A q si sj sw sg sh so)(hb:But b A B)(hp:∀i,p i->i≠b):d2t p B q si sj sw sg sh so:=
 h.keep dk (fun _ h=>h) fun i hi _=>hb.same i (hp i hi)
theorem d2t.grown{p:Nat->Prop}{bs:Nat}{A B:World}{q:Qu}{si sj sw sg sh so:Value}(h:d2t p A q si sj sw sg sh so)(hg:A.grownBy B (some bs))(hb:¬p bs):d2t p B q si sj sw sg sh so:=
 h.keep hg.4 (fun _ h=>h) fun b hp hl=>hg.block b hl (fun e=>by injection e with e;subst e;exact hb hp)
theorem d8u{α:Type}{F:Form α}{p:Nat->Prop}{W:World}{sv:Value}{l:List α}(h:d2p F p W sv l):sv.oneCell'=true:=by
 obtain⟨a,cap,rfl,-⟩:=h.shape;rfl
theorem d6d{p:Nat->Prop}{W:World}{sv:Value}{l:List Ex}(h:bG p W sv l):sv.oneCell'=true:=by
 obtain⟨a,cap,rfl⟩:=h.shape;rfl
theorem d2t.one{p:Nat->Prop}{W:World}{q:Qu}{si sj sw sg sh so:Value}(h:d2t p W q si sj sw sg sh so):(quC q si sj sw sg sh so).all (·.oneCell')=true:=by
 have h1:=d8u h.items;have h2:=d8u h.joins;have h3:=d6d h.wher;have h4:=d6d h.group;have h5:=d6d h.having;have h6:=d8u h.orders;simp only[quC,List.all_cons,List.all_nil,h1,h2,h3,h4,h5,h6];rfl
theorem e0r:(prog.info? 29).map (·.size)=some 1:=by kernel_rfl
theorem d8o:(prog.info? 36).map (·.size)=some 1:=by kernel_rfl
theorem e3y:(prog.info? 4).map (·.size)=some 1:=by kernel_rfl
def q0(d:Bool)(items:List It)(frm:So)(joins:List Jo)(wher:Ex)(group:List Ex)(having:Ex)(orders:List Od)(l:Int):Qu:=⟨d,items,frm,joins,wher,group,having,orders,l⟩
structure StQ(W A:World)(bs g cap:Nat)(ts:List Tok)(k:Nat)(q:Qu)(si sj sw sg sh so:Value):Prop where
 f:FrB W A bs 41 (quC q si sj sw sg sh so).toArray
 s:iV A bs g cap ts k
 p:d2t (fun b=>W.heap.size+2<=b) A q si sj sw sg sh so
theorem StQ.next{W A B:World}{bs g cap k k':Nat}{ts:List Tok}{q:Qu}{si sj sw sg sh so:Value}(h:StQ W A bs g cap ts k q si sj sw sg sh so)(hb:bs<W.heap.size)(hg:A.grownBy B (some bs))(hs:iV B bs g cap ts k'):StQ W B bs g cap ts k' q si sj sw sg sh so:=
 ⟨h.f.next hb hg,hs,h.p.grown hg aE⟩
theorem StQ.bl{W A B:World}{bs g cap k:Nat}{ts:List Tok}{q:Qu}{si sj sw sg sh so:Value}(h:StQ W A bs g cap ts k q si sj sw sg sh so)(hb:Bl A B):StQ W B bs g cap ts k q si sj sw sg sh so:=
 ⟨h.f.bl hb,h.s.bl hb,h.p.bl hb⟩
theorem StQ.put{W A B:World}{bs g cap k:Nat}{ts:List Tok}{q q':Qu}{si sj sw sg sh so si' sj' sw' sg' sh' so':Value}(h:StQ W A bs g cap ts k q si sj sw sg sh so)(hb:bs<W.heap.size)(hgl:g<W.heap.size)(hB:But (W.heap.size+1) A B)(hx:B.heap[W.heap.size+1]?=some (.cells (quC q' si' sj' sw' sg' sh' so').toArray 41 (0,0)))
  (hp:d2t (fun b=>W.heap.size+2<=b) A q' si' sj' sw' sg' sh' so'):StQ W B bs g cap ts k q' si' sj' sw' sg' sh' so':=
 ⟨h.f.but hB hx,h.s.but hB aE aE,hp.but hB (fun i hi=>by omega)⟩
structure StJ(W A:World)(bs g cap N:Nat)(ts:List Tok)(k:Nat)(d:Bool)(items:List It)(frm:So)(si v:Value)(acc:List (Jo×Value)):Prop where
 f:FrB W A bs 41 (quC ⟨d,items,frm,[],zeroE,[],zeroE,[],-1⟩ si v d2i d2i d2i d2i).toArray
 s:iV A bs g cap ts k
 i:d2p fIt (fun b=>W.heap.size+2<=b/\b<N) A si items
 o:A.ownsRow N 91 10 v acc.length (d4w fJo acc)
 r:∀q∈acc,bG (fun b=>N<=b/\some b≠v.ownBlock) A q.2 (Form.ex fJo q.1).args
 z:N<=A.heap.size
theorem StJ.next{W A B:World}{bs g cap N k k':Nat}{ts:List Tok}{d:Bool}{items:List It}{frm:So}{si v:Value}{acc:List (Jo×Value)}(h:StJ W A bs g cap N ts k d items frm si v acc)(hb:bs<W.heap.size)(hN:W.heap.size+2<=N)(hg:A.grownBy B (some bs))(hs:iV B bs g cap ts k'):StJ W B bs g cap N ts k' d items frm si v acc:=
 ⟨h.f.next hb hg,hs,h.i.grown hg (fun h=>by omega),pO h.o hg aE,fun q hq=>(h.r q hq).grown hg (fun h=>by omega),jH h.z hg.4⟩
theorem StJ.bl{W A B:World}{bs g cap N k:Nat}{ts:List Tok}{d:Bool}{items:List It}{frm:So}{si v:Value}{acc:List (Jo×Value)}(h:StJ W A bs g cap N ts k d items frm si v acc)(hb:Bl A B):StJ W B bs g cap N ts k d items frm si v acc:=
 ⟨h.f.bl hb,h.s.bl hb,h.i.bl hb,gY hb h.o,fun q hq=>(h.r q hq).bl hb,jH h.z hb.size⟩
theorem d8t{A B:World}{base b:Nat}{e:TypeId}{size n:Nat}{v:Value}{xs:List Value}(h:A.ownsRow base e size v n xs)(hb:But b A B)(hne:some b≠v.ownBlock):B.ownsRow base e size v n xs:=by
 refine⟨h.1,?_⟩;rcases h.2 with h0|⟨g,cap,cur,hv,hgb,hh,r⟩
 ·exact .inl h0
 ·exact .inr ⟨g,cap,cur,hv,hgb,(hb.same g (fun e=>hne (by rw[hv,e];rfl))).trans hh,r⟩
end
section
structure d9u(N:Nat)(q:Qu):Prop where
 items:∀i∈q.items,fC i.x<=N
 joins:∀j∈q.joins,fC j.on<=N
 wher:fC q.wher<=N
 group:∀x∈q.group,fC x<=N
 having:fC q.having<=N
 orders:∀o∈q.orders,fC o.x<=N
 li:q.items.length<=N
 lj:q.joins.length<=N
 lg:q.group.length<=N
 lo:q.orders.length<=N
theorem d3n:fC zeroE=1:=by unfold zeroE;simp only[fC,fF]
theorem e1l{N:Nat}(h:1<=N):d9u N d3z:=
 ⟨fun i h=>aq,fun i h=>aq,by show fC zeroE<=_;rw[d3n];exact h,fun i h=>aq,by show fC zeroE<=_;rw[d3n];exact h,fun i h=>aq,dL _,dL _,dL _,dL _⟩
section
variable {ts:List Tok} {k k':Nat}
end
end
end Go.Proofs.YtohlomdapelgeaaGreatDoor
