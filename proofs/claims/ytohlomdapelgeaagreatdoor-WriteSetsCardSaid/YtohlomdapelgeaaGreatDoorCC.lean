/- Texts MU MS ME MX Q1 Q2 QA QC EC. -/
import Derived.Test.YtohlomdapelgeaaGreatDoorCB
import Derived.Deep.QuietTactic
import Derived.BigQuiet
import Derived.BigRegion
import Derived.RegionTactic
import Derived.Test.YtohlomdapelgeaaGreatDoorCA
import Derived.Defers
import Derived.Recover
namespace Go.Proofs.YtohlomdapelgeaaGreatDoor
open _root_.Go.Proofs.Tryz
open Go.RowKit
open _root_.Array renaming getElem?_eq_some_iff->aC,getElem?_modify->dC,getElem?_toList->oL,replicate->kD
open _root_.Go.RowKit.Below renaming heap_setCell->fA
open _root_.Bool renaming and_eq_true->aQ,not_eq_true'->nT
open IntWalk renaming i64_in->gW
open _root_.Go.Lib renaming cell_of_heap->aG,frozen_of_heap->aJ,hasPrefix->aS,hid->aB,itoa->dQ
open _root_.List renaming cons_append->bE,drop_eq_getElem_cons->aZ,drop_zero->oC,getElem?_drop->iE,getElem?_eq_getElem->aP,getElem?_eq_some_iff->aO,getElem?_map->iJ,getElem?_take->rA,head?_drop->fQ,length->lV,length_cons->aX,length_nil->bL,length_pos_iff->qH,length_singleton->dB,mem_cons->dD,mem_of_getElem?->dJ,take_length->gJ
open _root_.Nat renaming le_refl->aH,le_trans->jH,lt_of_lt_of_le->gK,zero_add->gD
open _root_.Option renaming bind_eq_some_iff->dG,map_eq_some_iff->aT
open _root_.Go.Region renaming noSelect->jZ
open _root_.Go.World renaming block_lt_of_cell?->bB,cell?_of_block->jV,setCell->dX,size_alloc->aR
set_option maxRecDepth 100000
set_option maxHeartbeats 4000000
section
end
section
def SkF(l:List UInt8)(k j:Nat)(b:Bool):Prop:=k<=j/\j<=l.length/\bX b (l.drop j)=bX false (l.drop k)
theorem SkF.enter{l:List UInt8}{k j:Nat}(h:SkF l k j false)(hc:l[j]?=some 45)(hd:l[j+1]?=some 45):SkF l k j true:=by
 refine⟨h.1,h.2.1,?_⟩;rw[<-h.2.2,xX ⟨by rw[fQ];exact hc,by rw[iE];exact hd⟩]
end
section
def uO(l:List UInt8)(k:Nat):Prop:=∀j,j<k->j<17->aS l (kT[j]!)=false
theorem uO.none{l:List UInt8}(h:uO l 17):iN l=[]:=by
 unfold iN;rw[List.find?_eq_none.2]
 ·rfl
 ·intro x hx;obtain⟨j,hj,rfl⟩:=List.mem_iff_getElem.1 hx;have:=h j hj hj;simpa[hj] using this
theorem uO.next{l:List UInt8}{k:Nat}(h:uO l k)(hp:aS l kT[k]! =false):uO l (k+1):=fun j h1 h2=>by
 by_cases e:j=k
 ·rw[e];exact hp
 ·exact h j aE h2
end
section
end
section
end
section
end
section
end
section
end
section
structure iV(W:World)(bs g cap:Nat)(ts:List Tok)(k:Nat):Prop where
 own:W.heap[bs]?=some (.cells #[.slice (some ⟨g,0,none⟩) ts.length cap,.int .i64 (k:Int)] 116 (0,0))
 row:Row W g ts
 lt:k<ts.length
 few:ts.length<=100000
 ne:g≠bs
theorem aU{W:World}{b:Nat}{x0 x1:Value}{t:TypeId}(h:W.heap[b]?=some (.cells #[x0,x1] t (0,0))):W.cell? ⟨b,0,none⟩=some x0/\W.cell? ⟨b,1,none⟩=some x1/\W.frozen? ⟨b,0,none⟩=false/\W.frozen? ⟨b,1,none⟩=false/\b<W.heap.size:=
 ⟨by rw[aG h];rfl,by rw[aG h];rfl,aJ h 0,aJ h 1,(aC.1 h).1⟩
theorem dA{A B C:World}{r:Option Nat}(h:A.grownBy B r)(k:B.grownBy C r):A.grownBy C r:=
 ⟨k.1.trans h.1,k.2.trans h.2,k.3.trans h.3,jH h.4 k.4,fun i hi hr=>(k.5 i (gK hi h.4) hr).trans (h.5 i hi hr)⟩
theorem gI{A B:World}(h:Bl A B)(r:Option Nat):A.grownBy B r:=⟨h.1,h.2,h.3,h.size,fun i hi _=>h.block i hi⟩
theorem qA{A:World}(b o:Nat)(v:Value):A.grownBy (A.setCell ⟨b,o,none⟩ v) (some b):=
 ⟨rfl,rfl,rfl,by simp[dX],fun k _ hk=>fA _ _ _ _ (fun e=>hk (by rw[e]))⟩
theorem dP{A B:World}{r:Option Nat}(h:A.grownBy B r){b:Nat}(o:Nat)(hb:A.heap.size<=b)(v:Value):A.grownBy (B.setCell ⟨b,o,none⟩ v) r:=
 ⟨h.1,h.2,h.3,by simp[dX];exact h.4,fun i hi hr=>(fA _ _ _ _ ak).trans (h.5 i hi hr)⟩
theorem vU{A B:World}{r:Option Nat}(h:A.grownBy B r)(o:Obj):A.grownBy (B.alloc o) r:=
 ⟨h.1,h.2,h.3,by have:=h.4;simp;omega,fun i hi hr=>(aW _ _ (gK hi h.4)).trans (h.5 i hi hr)⟩
theorem b2q{A B:World}{r:Option Nat}(h:A.grownBy B r):A.grownBy B.drew r:=⟨h.1,h.2,h.3,h.4,h.5⟩
theorem b2p{A B:World}{r:Option Nat}(h:A.grownBy B r){b:Nat}(hb:A.heap.size<=b)(y0 y1 y2 y3 y4 y5:Value):
  A.grownBy ((((((B.setCell ⟨b,0,none⟩ y0).setCell ⟨b,1,none⟩ y1).setCell ⟨b,2,none⟩ y2).setCell ⟨b,3,none⟩ y3).setCell ⟨b,4,none⟩ y4).setCell ⟨b,5,none⟩ y5) r:=
 dP (dP (dP (dP (dP (dP h 0 hb _) 1 hb _) 2 hb _) 3 hb _) 4 hb _) 5 hb _
theorem uL(W:World){b i:Nat}(hi:i≠b)(y0 y1 y2 y3 y4 y5:Value):
  ((((((W.setCell ⟨b,0,none⟩ y0).setCell ⟨b,1,none⟩ y1).setCell ⟨b,2,none⟩ y2).setCell ⟨b,3,none⟩ y3).setCell ⟨b,4,none⟩ y4).setCell ⟨b,5,none⟩ y5).heap[i]?=W.heap[i]?:=by
 rw[aM _ ⟨b,5,none⟩ _ _ hi,aM _ ⟨b,4,none⟩ _ _ hi,aM _ ⟨b,3,none⟩ _ _ hi,aM _ ⟨b,2,none⟩ _ _ hi,aM _ ⟨b,1,none⟩ _ _ hi,aM _ ⟨b,0,none⟩ _ _ hi]
theorem iV.keep{W W':World}{bs g cap k:Nat}{ts:List Tok}(h:iV W bs g cap ts k)(h1:W'.heap[bs]?=W.heap[bs]?)(h2:W'.heap[g]?=W.heap[g]?):iV W' bs g cap ts k:=
 ⟨h1.trans h.own,h.row.block h2,h.lt,h.few,h.ne⟩
theorem iV.bl{W W':World}{bs g cap k:Nat}{ts:List Tok}(h:iV W bs g cap ts k)(hb:Bl W W'):iV W' bs g cap ts k:=
 ⟨(hb.block _ (aC.1 h.own).1).trans h.own,h.row.bl hb,h.lt,h.few,h.ne⟩
theorem iV.turn{W:World}{bs g cap k:Nat}{ts:List Tok}(h:iV W bs g cap ts k)(m:Nat)(hm:m<ts.length):iV (W.setCell ⟨bs,1,none⟩ (.int .i64 (m:Int))) bs g cap ts m:=
 ⟨by simp[dX,dC,h.own],h.row.set_other (p:=⟨bs,1,none⟩) h.ne _,hm,h.few,h.ne⟩
theorem Row.at{W:World}{g:Nat}{l:List Tok}(h:Row W g l){j:Nat}{x:Tok}(hx:l[j]?=some x):At6 W g j x:=by
 obtain⟨hj,e⟩:=aO.1 hx;rw[<-e];exact h j hj
theorem sJ{W:World}{bs g cap k:Nat}{ts:List Tok}(h:iV W bs g cap ts k):eg 53 #[.pointer (some ⟨bs,0,none⟩)] W fun e w'=>e= .returned (.bool false)/\W=w':=by
 obtain⟨c0,c1,f0,f1,hlt⟩:=aU h.own;have hn:=h.lt;have hf:=h.few;have hb:((ts.length:Int)==0)=false:=beq_eq_false_iff_ne.2 aE;clear h;go_enter func53,ntmps53;go_wp2;go_ret;exact⟨rfl,rfl⟩
theorem a9h{W:World}{bs g cap k:Nat}{ts:List Tok}(h:iV W bs g cap ts k):eg 89 #[.pointer (some ⟨bs,0,none⟩)] W fun e w'=>e= .returned (.int .i64 (k:Int))/\W=w':=by
 obtain⟨c0,c1,f0,f1,hlt⟩:=aU h.own;clear h;go_enter func89,ntmps89;go_wp2;go_ret;exact⟨rfl,rfl⟩
abbrev TVt(x:Tok):Value:=TV x.k x.pos x.t x.v.1 x.v.2.1 x.v.2.2
theorem rH{W:World}{bs g cap k:Nat}{ts:List Tok}(h:iV W bs g cap ts k){x:Tok}(hx:ts[k]?=some x):eg 20 #[.pointer (some ⟨bs,0,none⟩)] W fun e w'=>e= .returned (TVt x)/\Bl W w':=by
 have HN:=aB (h.bl ((Bl.refl W).alloc (.cells #[.int .i64 0,.int .i64 0,S [],.int .i64 0,.int .i64 0,S []] 72)));obtain⟨c0,c1,f0,f1,hlt⟩:=aU h.own;have h6:=h.row.at hx;have hkl:=h.lt;have hfew:=h.few;have hgl:g<W.heap.size:=bB _ _ h6.1;obtain⟨xk,xp,xt,xa,xb,xc⟩:=x;obtain⟨a0,a1,a2,a3,a4,a5⟩:=h6;simp only at a0 a1 a2 a3 a4 a5;clear h hx;go_enter func20,ntmps20;go_wp2_with fail
 (with_reducible refine(sJ HN.o).mono ?_)
 rintro e w' ⟨rfl,rfl⟩;go_wp2_with fail
 go_region
 go_wp2_with fail;exact bodyPost_ret (v:=TV xk xp xt xa xb xc) (by simp[results,results20,go_sem]) rfl ⟨rfl,((Bl.refl W).alloc _).drew⟩
theorem b9a{W:World}{bs g cap k:Nat}{ts:List Tok}(h:iV W bs g cap ts k):eg 48 #[.pointer (some ⟨bs,0,none⟩)] W fun e w'=>e= .returned (.int .i64 (k:Int))/\W=w':=by
 obtain⟨c0,c1,f0,f1,hlt⟩:=aU h.own;have H:=aB h;clear h;go_enter func48,ntmps48;go_wp2_with (first
  |(go_at_call 53;(with_reducible refine(sJ H.o).mono ?_);rintro e w' ⟨rfl,rfl⟩)
  |(go_at_call 89;(with_reducible refine(a9h H.o).mono ?_);rintro e w' ⟨rfl,rfl⟩))
 go_ret;exact⟨rfl,rfl⟩
def c0y(W:World)(bs g cap:Nat)(ts:List Tok)(k:Nat)(m:Int)(e:Ending)(w':World):Prop:=
 W.grownBy w' (some bs)/\((0<=m/\m<ts.length/\e= .returned (.bool true)/\iV w' bs g cap ts m.toNat)\/(¬(0<=m/\m<ts.length)/\e= .returned (.bool false)/\iV w' bs g cap ts k))
theorem b4r{W:World}{bs g cap k:Nat}{ts:List Tok}(h:iV W bs g cap ts k)(m:Int):eg 51 #[.pointer (some ⟨bs,0,none⟩),.int .i64 m] W (c0y W bs g cap ts k m):=by
 obtain⟨c0,c1,f0,f1,hlt⟩:=aU h.own;have hfew:=h.few;have H:=aB h;clear h;by_cases h0:m<0
 ·have HN:Hid (¬(0<=m/\m<ts.length)):=by show ¬_;omega
  go_enter func51,ntmps51;go_wp2_with (first
   |(go_at_call 53;(with_reducible refine(sJ H.o).mono ?_);rintro e w' ⟨rfl,rfl⟩))
  go_ret;exact⟨gI (Bl.refl W) _,.inr ⟨HN.o,rfl,H.o⟩⟩
 by_cases h1:m<ts.length
 ·have HN:Hid (0<=m/\m<ts.length):=⟨by omega,h1⟩
  have hge:¬((ts.length:Int)<=m):=aE;have hm0:0<=m:=aE;go_enter func51,ntmps51;go_wp2_with (first
   |(go_at_call 53;(with_reducible refine(sJ H.o).mono ?_);rintro e w' ⟨rfl,rfl⟩))
  go_ret;refine⟨qA _ _ _,.inl ⟨HN.o.1,HN.o.2,rfl,?_⟩⟩;have:=H.o.turn m.toNat aE;rw[show((m.toNat:Nat):Int)=m by omega] at this;exact this
 ·have HN:Hid (¬(0<=m/\m<ts.length)):=by show ¬_;omega
  have hge:(ts.length:Int)<=m:=aE;go_enter func51,ntmps51;go_wp2_with (first
   |(go_at_call 53;(with_reducible refine(sJ H.o).mono ?_);rintro e w' ⟨rfl,rfl⟩))
  go_ret;exact⟨gI (Bl.refl W) _,.inr ⟨HN.o,rfl,H.o⟩⟩
def fT(n k:Nat):Nat:=if k+1<n then k+1 else n-1
theorem wE{n k:Nat}(h:k<n):fT n k<n:=by unfold fT;split<;>omega
theorem yY{W:World}{bs g cap k:Nat}{ts:List Tok}(h:iV W bs g cap ts k){x:Tok}(hx:ts[k]?=some x):eg 136 #[.pointer (some ⟨bs,0,none⟩)] W fun e w'=>e= .returned (TVt x)/\W.grownBy w' (some bs)/\iV w' bs g cap ts (fT ts.length k):=by
 have hb0:Bl W (W.alloc (.cells #[.int .i64 0,.int .i64 0,S [],.int .i64 0,.int .i64 0,S []] 72)):=(Bl.refl W).alloc _;have HN:=aB (h.bl hb0);have hA0:=aN W (.cells #[.int .i64 0,.int .i64 0,S [],.int .i64 0,.int .i64 0,S []] 72);have hkl:=h.lt;have hfew:=h.few;have hbl:bs<W.heap.size:=(aC.1 h.own).1;have HK:Hid (min ((k:Int)+1) ((ts.length:Int)-1)=(fT ts.length k:Int)):=by
  show _=_;unfold fT;split<;>omega
 have HKL:=aB (wE hkl);have hgl:g<W.heap.size:=bB _ _ (h.row k h.lt).1;have HX:=aB hx;clear h hx;obtain⟨xk,xp,xt,xa,xb,xc⟩:=x;go_enter func136,ntmps136;go_wp2_with fail
 (with_reducible refine(rH HN.o HX.o).mono ?_)
 rintro e w1 ⟨rfl,hb1⟩;have hA1:=(hb1.block _ aa).trans hA0;have hz1:W.heap.size<w1.heap.size:=(aC.1 hA1).1;have HS1:=aB (HN.o.bl hb1);have HS2:=aB ((HN.o.bl hb1).bl ((Bl.refl w1).alloc (.cells #[.int .i64 xk,.int .i64 (xp:Int),S xt,.int .i64 xa,.int .i64 xb,S xc] 72)));have hb2:Bl W w1:=hb0.call hb1;clear hA0 hb0 hb1;go_wp2_with fail
 (with_reducible refine(sJ HS2.o).mono ?_)
 rintro e w' ⟨rfl,rfl⟩;obtain⟨c0,c1,f0,f1,hlt⟩:=aU HS1.o.own;obtain⟨⟨d0,d1,d2,d3,d4,d5⟩,⟨k0,k1,k2,k3,k4,k5⟩⟩:=kJ hA1;have x1:IntKind.i64.wrap ((k:Int)+1)=(k:Int)+1:=gW _ aE;have x2:IntKind.i64.wrap ((ts.length:Int)-1)=(ts.length:Int)-1:=gW _ aE;have hne:bs≠W.heap.size:=aE;have hne':W.heap.size≠bs:=aE;go_wp2_with fail
 go_region
 clear x1 x2;go_wp2_with fail;rw[HK.o];clear c0 c1 f0 f1 d0 d1 d2 d3 d4 d5 k0 k1 k2 k3 k4 k5;have s2:=HS1.o.turn _ HKL.o;have hA2:(w1.setCell ⟨bs,1,none⟩ (.int .i64 (fT ts.length k:Int))).heap[W.heap.size]?=_:=(aM _ ⟨bs,1,none⟩ _ _ ak).trans hA1;have g2:W.grownBy (w1.setCell ⟨bs,1,none⟩ (.int .i64 (fT ts.length k:Int))) (some bs):=dA (gI hb2 _) (qA _ _ _);generalize w1.setCell ⟨bs,1,none⟩ (.int .i64 (fT ts.length k:Int))=W2 at *;have hS6:=jC W2 W.heap.size _ _ _ _ _ _ (.int .i64 xk) (.int .i64 (xp:Int)) (.string ⟨xt.toArray⟩) (.int .i64 xa) (.int .i64 xb) (.string ⟨xc.toArray⟩) 72 hA2;have g6:=b2p g2 (aH W.heap.size) (.int .i64 xk) (.int .i64 (xp:Int)) (.string ⟨xt.toArray⟩) (.int .i64 xa) (.int .i64 xb) (.string ⟨xc.toArray⟩);have s6:=s2.keep (uL W2 hne (.int .i64 xk) (.int .i64 (xp:Int)) (.string ⟨xt.toArray⟩) (.int .i64 xa) (.int .i64 xb) (.string ⟨xc.toArray⟩)) (uL W2 (b:=W.heap.size) (i:=g) aE (.int .i64 xk) (.int .i64 (xp:Int)) (.string ⟨xt.toArray⟩) (.int .i64 xa) (.int .i64 xb) (.string ⟨xc.toArray⟩));generalize (((((W2.setCell ⟨W.heap.size,0,none⟩ (.int .i64 xk)).setCell ⟨W.heap.size,1,none⟩ (.int .i64 (xp:Int))).setCell ⟨W.heap.size,2,none⟩ (.string ⟨xt.toArray⟩)).setCell ⟨W.heap.size,3,none⟩ (.int .i64 xa)).setCell ⟨W.heap.size,4,none⟩ (.int .i64 xb)).setCell ⟨W.heap.size,5,none⟩ (.string ⟨xc.toArray⟩)=W6 at *;have hl6:W.heap.size<W6.heap.size:=(aC.1 hS6).1;have hS7:=(aW W6 (.cells #[.int .i64 xk,.int .i64 (xp:Int),.string ⟨xt.toArray⟩,.int .i64 xa,.int .i64 xb,.string ⟨xc.toArray⟩] 72) hl6).trans hS6;have g7:=b2q (vU g6 (.cells #[.int .i64 xk,.int .i64 (xp:Int),.string ⟨xt.toArray⟩,.int .i64 xa,.int .i64 xb,.string ⟨xc.toArray⟩] 72));have s7:=s6.bl ((Bl.refl W6).alloc (.cells #[.int .i64 xk,.int .i64 (xp:Int),.string ⟨xt.toArray⟩,.int .i64 xa,.int .i64 xb,.string ⟨xc.toArray⟩] 72)).drew;have hS8:(W6.alloc (.cells #[.int .i64 xk,.int .i64 (xp:Int),.string ⟨xt.toArray⟩,.int .i64 xa,.int .i64 xb,.string ⟨xc.toArray⟩] 72)).drew.heap[W.heap.size]?=_:=hS7;generalize (W6.alloc (.cells #[.int .i64 xk,.int .i64 (xp:Int),.string ⟨xt.toArray⟩,.int .i64 xa,.int .i64 xb,.string ⟨xc.toArray⟩] 72)).drew=W8 at *;obtain⟨⟨q0,q1,q2,q3,q4,q5⟩,-⟩:=kJ hS8;exact bodyPost_ret (v:=TV xk xp xt xa xb xc) (by simp[results,results136,go_sem,q0,q1,q2,q3,q4,q5]) rfl ⟨rfl,g7,s7⟩
end
section
def fH(x:Tok):Bool:=(x.k==1)&& !kwB x.t
def c0v(W:World)(bs g cap:Nat)(ts:List Tok)(k:Nat)(x:Tok)(e:Ending)(w':World):Prop:=
 W.grownBy w' (some bs)/\((fH x=true/\e= .returned (.tuple #[S x.t,.bool true])/\iV w' bs g cap ts (fT ts.length k))\/(fH x=false/\e= .returned (.tuple #[S [],.bool false])/\iV w' bs g cap ts k))
theorem a5b{W:World}{bs g cap k:Nat}{ts:List Tok}(h:iV W bs g cap ts k){x:Tok}(hx:ts[k]?=some x):eg 199 #[.pointer (some ⟨bs,0,none⟩)] W (c0v W bs g cap ts k x):=by
 have H:=aB h;have HX:=aB hx;have hbl:bs<W.heap.size:=(aC.1 h.own).1;clear h hx;go_enter func199,ntmps199;go_wp2_with fail
 (with_reducible refine(rH H.o HX.o).mono ?_)
 rintro e w1 ⟨rfl,hb1⟩;obtain⟨xk,xp,xt,xa,xb,xc⟩:=x;have hb2:Bl W (w1.alloc (.cells #[.int .i64 xk,.int .i64 (xp:Int),S xt,.int .i64 xa,.int .i64 xb,S xc] 72)):=hb1.alloc _;have HS:=aB (H.o.bl hb2);have hsz1:=hb1.size;by_cases hk1:xk=1
 ·subst hk1;cases hkw:kwB xt
  ·have HN:Hid (fH ⟨1,xp,xt,(xa,xb,xc)⟩=true):=by show _=_;simp[fH,hkw]
   have HKW:=aB hkw;clear hkw;have hT:=aN w1 (.cells #[.int .i64 1,.int .i64 (xp:Int),S xt,.int .i64 xa,.int .i64 xb,S xc] 72);go_wp2_with (first
    |(go_at_call 251;(with_reducible refine(a0v xt _).mono ?_);rintro e w2 ⟨rfl,hb3⟩;rw[HKW.o]))
   have HS3:=aB (HS.o.bl hb3);have hT3:=(hb3.block _ aa).trans hT;have hsz3:=hb3.size;rw[aR] at hsz3
   (with_reducible refine(yY HS3.o HX.o).mono ?_)
   rintro e w4 ⟨rfl,hg4,hs4⟩;have hT4:=(hg4.block _ aE ak).trans hT3;have t2:w4.cell? ⟨w1.heap.size,2,none⟩=some (S xt):=(by rw[aG hT4];rfl);have hg5:=dA (gI (hb2.call hb3) (some bs)) hg4;clear hT hT3 hT4 hb3 hb2 hg4;go_wp2_with fail;go_ret2;exact⟨hg5,.inl ⟨HN.o,rfl,hs4⟩⟩
  ·have HN:Hid (fH ⟨1,xp,xt,(xa,xb,xc)⟩=false):=by show _=_;simp[fH,hkw]
   have HKW:=aB hkw;clear hkw;go_wp2_with (first
    |(go_at_call 251;(with_reducible refine(a0v xt _).mono ?_);rintro e w2 ⟨rfl,hb3⟩;rw[HKW.o]))
   go_ret2;exact⟨gI (hb2.call hb3) _,.inr ⟨HN.o,rfl,HS.o.bl hb3⟩⟩
 ·have hkb:(xk != 1)=true:=by simpa using hk1
  have hkb':(xk==1)=false:=(by simpa using hk1);have HN:Hid (fH ⟨xk,xp,xt,(xa,xb,xc)⟩=false):=(by show _=_;simp[fH,hk1]);clear hk1;go_wp2_with fail;go_ret2;exact⟨gI hb2 _,.inr ⟨HN.o,rfl,HS.o⟩⟩
def xS(W:World)(p:Option Addr):Prop:=p=none\/∃bs,p=some ⟨bs,0,none⟩/\W.heap[bs]?=some (.cells #[.slice none 0 0,.int .i64 0] 116 (0,0))
theorem xS.bl{W W':World}{p:Option Addr}(h:xS W p)(hb:Bl W W'):xS W' p:=by
 rcases h with h|⟨bs,h,h2⟩
 ·exact .inl h
 ·exact .inr ⟨bs,h,(hb.block _ (aC.1 h2).1).trans h2⟩
theorem tZ{W:World}{p:Option Addr}(h:xS W p):eg 53 #[.pointer p] W fun e w'=>e= .returned (.bool true)/\W=w':=by
 rcases h with rfl|⟨bs,rfl,h⟩
 ·go_enter func53,ntmps53;go_wp2;go_ret;exact⟨rfl,rfl⟩
 ·obtain⟨c0,c1,f0,f1,hlt⟩:=aU h;go_enter func53,ntmps53;go_wp2;go_ret;exact⟨rfl,rfl⟩
theorem a1c{W:World}{p:Option Addr}(h:xS W p):eg 20 #[.pointer p] W fun e w'=>e= .returned (TV 0 0 [] 0 0 [])/\Bl W w':=by
 have H:=aB (h.bl ((Bl.refl W).alloc (.cells #[.int .i64 0,.int .i64 0,S [],.int .i64 0,.int .i64 0,S []] 72)));clear h;go_enter func20,ntmps20;go_wp2_with (first
  |(go_at_call 53;(with_reducible refine(tZ H.o).mono ?_);rintro e w' ⟨rfl,rfl⟩))
 exact bodyPost_ret (v:=TV 0 0 [] 0 0 []) (by simp[results,results20,go_sem]) rfl ⟨rfl,(Bl.refl W).alloc _⟩
theorem a9c{W:World}{p:Option Addr}(h:xS W p):eg 199 #[.pointer p] W fun e w'=>e= .returned (.tuple #[S [],.bool false])/\Bl W w':=by
 have H:=aB h;clear h;go_enter func199,ntmps199;go_wp2_with (first
  |(go_at_call 20;(with_reducible refine(a1c H.o).mono ?_);rintro e w1 ⟨rfl,hb1⟩))
 go_ret2;exact⟨rfl,hb1.alloc _⟩
end
section
abbrev RS(g n cap k:Nat):Value:= .agg #[.slice (some ⟨g,0,none⟩) n cap,.int .i64 (k:Int)]
def isB(x:Tok)(s:List UInt8):Bool:=(x.k==1||x.k==3)&&(x.t==s)
end
section
theorem uA(W:World)(o1 o2 o3:Obj):(((W.alloc o1).alloc o2).alloc o3).heap[W.heap.size]?=some o1:=by
 rw[aW _ _ ak,aW _ _ aa,aN]
theorem oZ(W:World)(o1 o2 o3:Obj):(((W.alloc o1).alloc o2).alloc o3).heap[W.heap.size+1]?=some o2:=by
 rw[aW _ _ aa,aV _ _ aa]
def bH(ts:List Tok):Nat->List (List UInt8)->Option Nat
 |k,[]=>some k
 |k,s::r=>match ts[k]? with
  |some x=>if isB x s then bH ts (fT ts.length k) r else none
  |none=>none
theorem nK{ts:List Tok}{k:Nat}{x:Tok}(hx:ts[k]?=some x)(s:List UInt8)(r:List (List UInt8)):bH ts k (s::r)=if isB x s then bH ts (fT ts.length k) r else none:=by
 simp only[bH,hx]
theorem uC(ts:List Tok):∀(a b:List (List UInt8)) (k:Nat),bH ts k (a++b)=(bH ts k a).bind fun k'=>bH ts k' b
 |[],b,k=>rfl
 |s::r,b,k=>by
  simp only[bE,bH];cases ts[k]? with
  |none=>rfl
  |some x=>
   simp only;split
   ·exact uC ts r b _
   ·rfl
def Strs(W:World)(sv:Value)(xs:List (List UInt8)):Prop:=
 ∃a cap,sv= .slice a xs.length cap/\∀j,(h:j<xs.length)->∃b off,a=some ⟨b,off,none⟩/\W.cell? ⟨b,off+j,none⟩=some (S xs[j])
theorem Strs.bl{W W':World}(hb:Bl W W'){sv:Value}{xs:List (List UInt8)}(h:Strs W sv xs):Strs W' sv xs:=by
 obtain⟨a,cap,e,hc⟩:=h;refine⟨a,cap,e,fun j hj=>?_⟩;obtain⟨b,off,e2,c⟩:=hc j hj;exact⟨b,off,e2,hb.cell c⟩
theorem Strs.shape{W:World}{sv:Value}{xs:List (List UInt8)}(h:Strs W sv xs):∃a cap,sv= .slice a xs.length cap/\∀j,(h:j<xs.length)->∃b off,a=some ⟨b,off,none⟩/\W.cell? ⟨b,off+j,none⟩=some (S xs[j]):=h
end
section
end
section
end
section
inductive Ex where
 |mk (k:Int) (v:Int×Int×List UInt8) (t n:List UInt8) (o:Int) (args:List Ex)
def Ex.k:Ex->Int| .mk k _ _ _ _ _=>k
def Ex.v:Ex->Int×Int×List UInt8| .mk _ v _ _ _ _=>v
def Ex.t:Ex->List UInt8| .mk _ _ t _ _ _=>t
def Ex.n:Ex->List UInt8| .mk _ _ _ n _ _=>n
def Ex.o:Ex->Int| .mk _ _ _ _ o _=>o
def Ex.args:Ex->List Ex| .mk _ _ _ _ _ l=>l
def bI:Int->List UInt8
 |1=>[43]
 |2=>[45]
 |3=>[42]
 |4=>[47]
 |5=>[37]
 |6=>[124,124]
 |7=>[61]
 |8=>[60,62]
 |9=>[60]
 |10=>[60,61]
 |11=>[62]
 |12=>[62,61]
 |13=>[97,110,100]
 |14=>[111,114]
 |15=>[45]
 |16=>[110,111,116]
 |17=>[105,115,32,110,117,108,108]
 |18=>[105,115,32,110,111,116,32,110,117,108,108]
 |19=>[108,101,110,103,116,104]
 |20=>[97,98,115]
 |_=>[]
def fJ(o:Int):Nat:=if 1<=o/\o<=14 then 2 else if 15<=o/\o<=20 then 1 else 0
def gX:List UInt8:=[99,111,117,110,116]
def c1m:List UInt8:=[115,117,109]
def c1n:List UInt8:=[109,105,110]
def c1o:List UInt8:=[109,97,120]
def bZ:List UInt8:=[99,111,97,108,101,115,99,101]
def qL:List UInt8:=[108,101,110,103,116,104]
def b8b:List UInt8:=[97,98,115]
def rW:List UInt8:=[110,111,116]
def sIs:List UInt8:=[105,115]
def gN:List UInt8:=[110,117,108,108]
def kE:List UInt8:=[102,97,108,115,101]
def nW:List UInt8:=[116,114,117,101]
def gP:List (List UInt8):=[gX,c1m,c1n,c1o]
inductive Res where
 |o
 |bad (e:Int)
 |good (k:Nat) (x:Ex)
def Res.bind:Res->(Nat->Ex->Res)->Res
 | .o,_=> .o
 | .bad e,_=> .bad e
 | .good k x,f=>f k x
def opE(o:Int)(l:List Ex):Ex:= .mk 3 (0,0,[]) [] [] o l
def b3v(v:Int×Int×List UInt8):Ex:= .mk 1 v [] [] 0 []
def b3w(t n:List UInt8):Ex:= .mk 2 (0,0,[]) t n 0 []
def zeroE:Ex:= .mk 0 (0,0,[]) [] [] 0 []
def dZ:Nat->List Int
 |0=>[14]
 |1=>[13]
 |3=>[7,8,9,10,11,12]
 |4=>[6]
 |5=>[1,2]
 |6=>[3,4,5]
 |_=>[]
def fI(ts:List Tok)(k:Nat):List Int->Option (Int×Nat)
 |[]=>none
 |o::r=>match bH ts k [bI o] with
  |some k'=>some (o,k')
  |none=>fI ts k r
def mM(ts:List Tok)(k:Nat):Option (List UInt8×Nat):=match ts[k]? with
 |some x=>if fH x then some (x.t,fT ts.length k) else none
 |none=>none
inductive Job where
 |rd (n k d:Nat)
 |lp (n k d:Nat) (x:Ex)
 |args (nm:List UInt8) (k d:Nat) (acc:List Ex)
def fB(d:Nat)(r:Res):Res:=if d<60 then r else .bad 260
def qO(nm:List UInt8)(l:List Ex):Ex:=
 if nm=qL then opE 19 l else if nm=b8b then opE 20 l else if nm=bZ then .mk 4 (0,0,[]) [] [] 0 l else .mk 5 (0,0,[]) [] nm 0 l
def tO(nm:List UInt8):Bool:=nm==qL||nm==b8b||nm==bZ||gP.contains nm
def iW(ts:List Tok)(run:Job->Res)(nm:List UInt8)(k d:Nat):Res:=
 if tO nm=false then .bad 261
 else if nm=gX then match bH ts k [[42],[41]] with
  |some k'=> .good k' (qO nm [])
  |none=>run (.args nm k d [])
 else run (.args nm k d [])
def fZ(ts:List Tok)(k:Nat):List (List UInt8×Int)->Option (Nat×Int)
 |[]=>none
 |(s,i)::r=>match bH ts k [s] with
  |some k'=>some (k',i)
  |none=>fZ ts k r
def kV(ts:List Tok)(run:Job->Res)(k d:Nat):Res:=match ts[k]? with
 |none=> .o
 |some x=>if x.k=2 then .good (fT ts.length k) (b3v x.v)
  else match fZ ts k [(kE,0),(nW,1),(gN,2)] with
   |some (k',i)=> .good k' (b3v (ofK i,ofN i,[]))
   |none=>match bH ts k [[40]] with
    |some k'=>(fB d (run (.rd 0 k' (d+1)))).bind fun k2 y=>match bH ts k2 [[41]] with
     |some k3=> .good k3 y
     |none=> .bad 261
    |none=>match mM ts k with
     |none=> .bad 261
     |some (nm,k1)=>match bH ts k1 [[40]] with
      |some k2=>iW ts run nm k2 d
      |none=>match bH ts k1 [[46]] with
       |some k2=>match mM ts k2 with
        |none=> .bad 261
        |some (c,k3)=> .good k3 (b3w nm c)
       |none=> .good k1 (b3w [] nm)
def a4k(ts:List Tok)(run:Job->Res)(k d:Nat):Res:=
 (run (.rd 4 k d)).bind fun k1 x=>match fI ts k1 (dZ 3) with
  |some (o,k2)=>(run (.rd 4 k2 d)).bind fun k3 y=> .good k3 (opE o [x,y])
  |none=>match bH ts k1 [sIs,gN] with
   |some k2=> .good k2 (opE 17 [x])
   |none=>match bH ts k1 [sIs,rW,gN] with
    |some k2=> .good k2 (opE 18 [x])
    |none=> .good k1 x
def nI(ts:List Tok)(run:Job->Res):Job->Res
 | .rd n k d=>
  if n=2 then match bH ts k [rW] with
   |some k'=>(fB d (run (.rd 2 k' (d+1)))).bind fun k2 y=> .good k2 (opE 16 [y])
   |none=>run (.rd 3 k d)
  else if n=7 then match bH ts k [[45]] with
   |some k'=>(fB d (run (.rd 7 k' (d+1)))).bind fun k2 y=> .good k2 (opE 15 [y])
   |none=>kV ts run k d
  else if n=3 then a4k ts run k d
  else(run (.rd (n+1) k d)).bind fun k1 x=>run (.lp n k1 d x)
 | .lp n k d x=>match fI ts k (dZ n) with
  |none=> .good k x
  |some (o,k')=>(run (.rd (n+1) k' d)).bind fun k2 y=>run (.lp n k2 d (opE o [x,y]))
 | .args nm k d acc=>(fB d (run (.rd 0 k (d+1)))).bind fun k1 x=>
  match(if nm=bZ then bH ts k1 [[44]] else none) with
  |some k2=>run (.args nm k2 d (acc++[x]))
  |none=>match bH ts k1 [[41]] with
   |some k2=> .good k2 (qO nm (acc++[x]))
   |none=> .bad 261
def dW(ts:List Tok):Nat->Job->Res
 |0,_=> .o
 |f+1,j=>nI ts (dW ts f) j
end
section
def mO(s:List UInt8):Bool:=if 4000<s.length then false else match jQ s with
 |some [x]=>fH x&&(x.t==s)
 |_=>false
def dV(k:Int)(v:Int×Int×List UInt8)(t n:List UInt8)(o:Int)(args:List Ex):Bool:=
 if k=1 then(t==[]&&n==[]&&o==0&&args.isEmpty)&&(chk v.1 v.2.1 v.2.2==0)&&(v.1 != 2||decide (0<=v.2.1))
 else if k=2 then(v==(0,0,[])&&o==0&&args.isEmpty)&&mO n&&(t==[]||mO t)
 else if k=3 then(v==(0,0,[])&&t==[]&&n==[])&&decide (1<=o/\o<=20)&&args.length==fJ o
 else if k=4 then(v==(0,0,[])&&t==[]&&n==[]&&o==0)&& !args.isEmpty
 else if k=5 then(v==(0,0,[])&&t==[]&&o==0)&&gP.contains n&&(args.length==1||args.isEmpty&&n==gX)
 else false
def a9r(x:Ex):Bool:=dV x.k x.v x.t x.n x.o x.args
mutual
def eH:Ex->Bool
 | .mk k v t n o args=>a9r (.mk k v t n o args)&&a0t args
def a0t:List Ex->Bool
 |[]=>true
 |x::r=>eH x&&a0t r
end
def jR(s:List UInt8):List (List UInt8)->List UInt8
 |[]=>[]
 |[x]=>x
 |x::r=>x++s++jR s r
def qN(f:List UInt8)(l:List (List UInt8)):List UInt8:=f++[40]++jR [44,32] l++[41]
def mR(l:List (List UInt8)):List UInt8:=[40]++jR [32] l++[41]
def uB(k:Int)(v:Int×Int×List UInt8)(t n:List UInt8)(o:Int)(l:List (List UInt8)):List UInt8:=
 if k=1 then lit v.1 v.2.1 v.2.2
 else if k=2 then(if t=[] then n else t++[46]++n)
 else if k=4 then qN bZ l
 else if k=5 then qN n (if l=[] then[[42]] else l)
 else if fJ o=2 then mR [l.getD 0 [],bI o,l.getD 1 []]
 else if o=19\/o=20 then qN (bI o) l
 else if o=17\/o=18 then mR [l.getD 0 [],bI o]
 else mR [bI o,l.getD 0 []]
mutual
def eY:Ex->List UInt8
 | .mk k v t n o args=>uB k v t n o (yX args)
def yX:List Ex->List (List UInt8)
 |[]=>[]
 |x::r=>eY x::yX r
end
theorem vG(l:List Ex):yX l=l.map eY:=by
 induction l with
 |nil=>simp[yX]
 |cons x r ih=>simp[yX,ih]
theorem vY(l:List Ex):a0t l=l.all eH:=by
 induction l with
 |nil=>simp[a0t]
 |cons x r ih=>simp[a0t,ih]
mutual
def kR:Ex->Ex->Bool
 | .mk k v t n o a,.mk k' v' t' n' o' a'=>(k==k'&&v==v'&&t==t'&&n==n'&&o==o')&&lQ a a'
def lQ:List Ex->List Ex->Bool
 |[],[]=>true
 |x::r,y::s=>kR x y&&lQ r s
 |_,_=>false
end
mutual
theorem zZ:∀x:Ex,kR x x=true
 | .mk k v t n o a=>by simp[kR,a1w a]
theorem a1w:∀l:List Ex,lQ l l=true
 |[]=>by simp[lQ]
 |x::r=>by simp[lQ,zZ x,a1w r]
end
mutual
theorem same_eq:∀x y:Ex,kR x y=true->x=y
 | .mk k v t n o a,.mk k' v' t' n' o' a',h=>by
  simp only[kR,aQ,beq_iff_eq] at h;obtain⟨⟨⟨⟨⟨rfl,rfl⟩,rfl⟩,rfl⟩,rfl⟩,h⟩:=h;rw[a9m a a' h]
theorem a9m:∀l m:List Ex,lQ l m=true->l=m
 |[],[],_=>rfl
 |[],_::_,h=>by simp[lQ] at h
 |_::_,[],h=>by simp[lQ] at h
 |x::r,y::s,h=>by
  simp only[lQ,aQ] at h;rw[same_eq x y h.1,a9m r s h.2]
end
theorem b2r{x y:Ex}(h:y∈x.args):SizeOf.sizeOf y<SizeOf.sizeOf x:=by
 cases x with
 |mk k v t n o args=>
  have:=List.sizeOf_lt_of_mem (show y∈args from h);simp only[Ex.mk.sizeOf_spec];omega
abbrev EV(k:Int)(v:Int×Int×List UInt8)(t n:List UInt8)(o:Int)(sv:Value):Value:= .agg #[.int .i64 k,.int .i64 v.1,.int .i64 v.2.1,S v.2.2,S t,S n,.int .i64 o,sv]
def At8(W:World)(b o:Nat)(x:Ex)(sv:Value):Prop:=
 W.cell? ⟨b,o,none⟩=some (.int .i64 x.k)/\W.cell? ⟨b,o+1,none⟩=some (.int .i64 x.v.1)/\W.cell? ⟨b,o+2,none⟩=some (.int .i64 x.v.2.1)/\W.cell? ⟨b,o+3,none⟩=some (S x.v.2.2)/\
 W.cell? ⟨b,o+4,none⟩=some (S x.t)/\W.cell? ⟨b,o+5,none⟩=some (S x.n)/\W.cell? ⟨b,o+6,none⟩=some (.int .i64 x.o)/\W.cell? ⟨b,o+7,none⟩=some sv
theorem At8.keep{W W':World}{b o:Nat}{x:Ex}{sv:Value}(h:At8 W b o x sv)(hk:W'.heap[b]?=W.heap[b]?):At8 W' b o x sv:=by
 have c:∀o v,W.cell? ⟨b,o,none⟩=some v->W'.cell? ⟨b,o,none⟩=some v:=fun o v hv=>(by rw[jV (w:=W) hk];exact hv);obtain⟨h0,h1,h2,h3,h4,h5,h6,h7⟩:=h;exact⟨c _ _ h0,c _ _ h1,c _ _ h2,c _ _ h3,c _ _ h4,c _ _ h5,c _ _ h6,c _ _ h7⟩
inductive gU (W:World):Value->List Ex->Prop where
 |mk (a:Option Addr) (cap:Nat) (l:List Ex) (s:Nat->Value) (h1:∀j x,l[j]?=some x->∃b off,a=some ⟨b,off,none⟩/\At8 W b (off+j * 8) x (s j)) (h2:∀j x,l[j]?=some x->gU W (s j) x.args):gU W (.slice a l.length cap) l
def eO(W:World)(x:Ex)(v:Value):Prop:=∃sv,v=EV x.k x.v x.t x.n x.o sv/\gU W sv x.args
theorem gU.keep{W W':World}(hk:∀b o v,W.cell? ⟨b,o+7,none⟩=some v->W'.heap[b]?=W.heap[b]?){sv:Value}{l:List Ex}(h:gU W sv l):gU W' sv l:=by
 induction h with
 |mk a cap l s h1 _ ih=>
  refine .mk a cap l s (fun j x hx=>?_) ih;obtain⟨b,off,e,h8⟩:=h1 j x hx;exact⟨b,off,e,h8.keep (hk b _ _ h8.2.2.2.2.2.2.2)⟩
theorem gU.bl{W W':World}(hb:Bl W W'){sv:Value}{l:List Ex}(h:gU W sv l):gU W' sv l:=
 h.keep fun b o v hc=>hb.block b (by have:=bB _ _ hc;simpa using this)
theorem eO.bl{W W':World}(hb:Bl W W'){x:Ex}{v:Value}(h:eO W x v):eO W' x v:=by
 obtain⟨sv,e,h⟩:=h;exact⟨sv,e,h.bl hb⟩
theorem gU.grown{W W':World}{bs:Nat}{c0 c1:Value}{t:TypeId}(h2:W.heap[bs]?=some (.cells #[c0,c1] t (0,0)))(hg:W.grownBy W' (some bs)){sv:Value}{l:List Ex}(h:gU W sv l):gU W' sv l:=
 h.keep fun b o v hc=>hg.block b (by have:=bB _ _ hc;simpa using this) (fun e=>by
  injection e with e;subst e;rw[aG h2] at hc;simp at hc)
theorem eO.grown{W W':World}{bs:Nat}{c0 c1:Value}{t:TypeId}(h2:W.heap[bs]?=some (.cells #[c0,c1] t (0,0)))(hg:W.grownBy W' (some bs)){x:Ex}{v:Value}(h:eO W x v):eO W' x v:=by
 obtain⟨sv,e,h⟩:=h;exact⟨sv,e,h.grown h2 hg⟩
theorem gU.nil(W:World)(a:Option Addr)(cap:Nat):gU W (.slice a 0 cap) []:= .mk a cap [] (fun _=> .slice none 0 0) (fun j x h=>by simp at h) (fun j x h=>by simp at h)
end
section
def lC(ts:List Tok):Prop:=∀k x,ts[k]?=some x->k+1=ts.length->x.k=4
theorem zG{ts:List Tok}(h:lC ts){k:Nat}{x:Tok}(hx:ts[k]?=some x)(h4:x.k≠4):fT ts.length k=k+1/\k+1<ts.length:=by
 have hk:=(aO.1 hx).1;have:k+1≠ts.length:=fun e=>h4 (h k x hx e);unfold fT;rw[if_pos aE];omega
theorem c9u{x:Tok}{s:List UInt8}(h:isB x s=true):x.k≠4:=by
 unfold isB at h;intro e;rw[e] at h;simp at h
theorem b6n{x:Tok}(h:fH x=true):x.k≠4:=by
 unfold fH at h;intro e;rw[e] at h;simp at h
theorem gV{ts:List Tok}(hT:lC ts):∀{l:List (List UInt8)} {k k':Nat},k<ts.length->bH ts k l=some k'->k+l.length<=k'/\k'<ts.length
 |[],k,k',hk,h=>by injection h with h;subst h;simp;omega
 |s::r,k,k',hk,h=>by
  obtain⟨x,hx⟩:∃x,ts[k]?=some x:=⟨_,aP hk⟩
  rw[nK hx] at h;by_cases hb:isB x s=true
  ·rw[if_pos hb] at h;obtain⟨e,hl⟩:=zG hT hx (c9u hb);rw[e] at h;have:=gV hT hl h;simp only[aX];omega
  ·rw[if_neg hb] at h;cases h
theorem pE{ts:List Tok}(hT:lC ts):∀{l:List Int} {k:Nat} {o:Int} {k':Nat},k<ts.length->fI ts k l=some (o,k')->k<k'/\k'<ts.length
 |[],k,o,k',_,h=>by cases h
 |p::r,k,o,k',hk,h=>by
  unfold fI at h;cases ht:bH ts k [bI p] with
  |some k2=>
   rw[ht] at h;injection h with h;injection h with _ h;subst h;have:=gV hT hk ht;simp only[dB] at this;omega
  |none=>
   rw[ht] at h;exact pE hT hk h
theorem zH{ts:List Tok}(hT:lC ts){k:Nat}{n:List UInt8}{k':Nat}(h:mM ts k=some (n,k')):k<k'/\k'<ts.length:=by
 unfold mM at h;cases hx:ts[k]? with
 |none=>rw[hx] at h;cases h
 |some x=>
  rw[hx] at h;simp only at h;split at h
  ·rename_i hn;injection h with h;injection h with _ h;subst h;have:=zG hT hx (b6n hn);omega
  ·cases h
theorem a0r{ts:List Tok}(hT:lC ts):∀{l:List (List UInt8×Int)} {k k':Nat} {i:Int},k<ts.length->fZ ts k l=some (k',i)->k<k'/\k'<ts.length
 |[],k,k',i,_,h=>by cases h
 |(s,j)::r,k,k',i,hk,h=>by
  unfold fZ at h;cases ht:bH ts k [s] with
  |some k2=>
   rw[ht] at h;injection h with h;injection h with h _;subst h;have:=gV hT hk ht;simp only[dB] at this;omega
  |none=>
   rw[ht] at h;exact a0r hT hk h
def Job.at:Job->Nat
 | .rd _ k _=>k
 | .lp _ k _ _=>k
 | .args _ k _ _=>k
def Job.rank:Job->Nat
 | .rd n _ _=>12-n
 | .lp _ _ _ _=>1
 | .args _ _ _ _=>13
def Job.lvl:Job->Prop
 | .rd n _ _=>n<=7
 | .lp n _ _ _=>n<=6/\n≠2/\n≠3
 | .args _ _ _ _=>True
def Job.most(ts:List Tok)(j:Job):Nat:=(ts.length-j.at) * 20+j.rank
def Job.past(j:Job)(k:Nat):Prop:=match j with
 | .rd _ k0 _=>k0<k
 | .lp _ k0 _ _=>k0<=k
 | .args _ k0 _ _=>k0<k
def Ends(ts:List Tok)(j:Job):Res->Prop
 | .o=>False
 | .bad _=>True
 | .good k _=>j.past k/\k<ts.length
theorem Ends.bind{ts:List Tok}{i j:Job}{r:Res}{g:Nat->Ex->Res}(h:Ends ts i r)(hg:∀k x,r= .good k x->k<ts.length->i.past k->Ends ts j (g k x)):Ends ts j (r.bind g):=by
 cases r with
 |o=>exact h.elim
 |bad e=>exact trivial
 |good k x=>exact hg k x rfl h.2 h.1
theorem sQ{ts:List Tok}{j:Job}{d:Nat}{r:Res}(h:Ends ts j r):Ends ts j (fB d r):=by
 unfold fB;split
 ·exact h
 ·exact trivial
theorem c3t{ts:List Tok}{n m k d e:Nat}{r:Res}(h:Ends ts (.rd n k d) r):Ends ts (.rd m k e) r:=by
 cases r with
 |o=>exact h
 |bad c=>exact trivial
 |good k' x=>exact h
theorem a9p{ts:List Tok}(hT:lC ts):∀(f:Nat) (j:Job),j.at<ts.length->j.lvl->j.most ts<f->Ends ts j (dW ts f j)
 |0,j,_,_,h=>by omega
 |f+1,j,hk,hl,h=>by
  have ih:=a9p hT f;simp only[dW];cases j with
  |lp n k d x=>
   simp only[Job.at] at hk;obtain⟨hl6,hl2,hl3⟩:=hl;simp only[nI];cases ht:fI ts k (dZ n) with
   |none=>exact⟨aH _,hk⟩
   |some p=>
    obtain⟨o,k'⟩:=p;have h1:=pE hT hk ht;simp only[Job.most,Job.at,Job.rank] at h;refine Ends.bind (ih (.rd (n+1) k' d) h1.2 (by show n+1<=7;omega) dT) ?_;intro k2 y _ hk2 hlt;simp only[Job.past] at hlt;have:=ih (.lp n k2 d (opE o [x,y])) hk2 ⟨hl6,hl2,hl3⟩ dT
    revert this
    cases dW ts f (.lp n k2 d (opE o [x,y])) with
    |o=>exact id
    |bad e=>exact id
    |good k3 z=>
     intro h3;have h31:k2<=k3:=h3.1;exact⟨by show k<=k3;omega,h3.2⟩
  |args nm k d acc=>
   simp only[Job.at] at hk;simp only[Job.most,Job.at,Job.rank] at h;simp only[nI];refine Ends.bind (i:= .rd 0 k (d+1)) (sQ (ih (.rd 0 k (d+1)) hk (by show 0<=7;omega) dT)) ?_;intro k1 x _ hk1 hlt;simp only[Job.past] at hlt;cases hc:(if nm=bZ then bH ts k1 [[44]] else none) with
   |some k2=>
    have h2:k1<k2/\k2<ts.length:=by
     split at hc
     ·have:=gV hT hk1 hc;simp only[dB] at this;omega
     ·cases hc
    show Ends ts (.args nm k d acc) (dW ts f (.args nm k2 d (acc++[x])));have:=ih (.args nm k2 d (acc++[x])) h2.2 trivial dT
    revert this
    cases dW ts f (.args nm k2 d (acc++[x])) with
    |o=>exact id
    |bad e=>exact id
    |good k3 z=>
     intro h3;have h31:k2<k3:=h3.1;exact⟨by show k<k3;omega,h3.2⟩
   |none=>
    simp only;cases ht:bH ts k1 [[41]] with
    |none=>exact trivial
    |some k2=>
     have:=gV hT hk1 ht;exact⟨by show k<k2;omega,this.2⟩
  |rd n k d=>
   simp only[Job.at] at hk;have hn:n<=7:=hl;simp only[Job.most,Job.at,Job.rank] at h;have next:∀(m:Nat),n<m->m<=7->Ends ts (.rd m k d) (dW ts f (.rd m k d)):=fun m h1 h2=>ih (.rd m k d) hk h2 dT;have later:∀(i:Job),k<i.at->i.at<ts.length->i.lvl->i.rank<=13->Ends ts i (dW ts f i):=fun i h1 h2 h3 h4=>ih i h2 h3 (by simp only[Job.most];omega);have called:∀(nm:List UInt8) (k2:Nat),k<k2->k2<ts.length->Ends ts (.rd n k d) (iW ts (dW ts f) nm k2 d):=by
    intro nm k2 h1 h2;have hargs:Ends ts (.rd n k d) (dW ts f (.args nm k2 d [])):=by
     have:=later (.args nm k2 d []) h1 h2 trivial (aH _)
     revert this
     cases dW ts f (.args nm k2 d []) with
     |o=>exact id
     |bad e=>exact id
     |good k3 z=>
      intro h3;have h31:k2<k3:=h3.1;exact⟨by show k<k3;omega,h3.2⟩
    unfold iW;split
    ·exact trivial
    ·split
     ·cases ht:bH ts k2 [[42],[41]] with
      |none=>exact hargs
      |some k3=>
       have:=gV hT h2 ht;exact⟨by show k<k3;omega,this.2⟩
     ·exact hargs
   simp only[nI];by_cases h2:n=2
   ·rw[if_pos h2];cases ht:bH ts k [rW] with
    |none=>exact c3t (next 3 aE aE)
    |some k'=>
     have h1:=gV hT hk ht;simp only[dB] at h1;refine Ends.bind (i:= .rd 2 k' (d+1)) (sQ (later (.rd 2 k' (d+1)) (by show k<k';omega) h1.2 (by show 2<=7;omega) (by simp[Job.rank]))) ?_;intro k2 y _ hk2 hlt;simp only[Job.past] at hlt;exact⟨by show k<k2;omega,hk2⟩
   rw[if_neg h2];by_cases h7:n=7
   ·rw[if_pos h7];cases ht:bH ts k [[45]] with
    |some k'=>
     have h1:=gV hT hk ht;simp only[dB] at h1;refine Ends.bind (i:= .rd 7 k' (d+1)) (sQ (later (.rd 7 k' (d+1)) (by show k<k';omega) h1.2 (by show 7<=7;omega) (by simp[Job.rank]))) ?_;intro k2 y _ hk2 hlt;simp only[Job.past] at hlt;exact⟨by show k<k2;omega,hk2⟩
    |none=>
     simp only;unfold kV;obtain⟨x,hx⟩:∃x,ts[k]?=some x:=⟨_,aP hk⟩
     rw[hx];simp only;by_cases hv:x.k=2
     ·rw[if_pos hv];have:=zG hT hx aE;exact⟨by show k<fT ts.length k;omega,by omega⟩
     rw[if_neg hv];cases hc:fZ ts k [(kE,0),(nW,1),(gN,2)] with
     |some p=>
      obtain⟨k',i⟩:=p;exact a0r hT hk hc
     |none=>
      simp only;cases hp:bH ts k [[40]] with
      |some k'=>
       have h1:=gV hT hk hp;simp only[dB] at h1;refine Ends.bind (i:= .rd 0 k' (d+1)) (sQ (later (.rd 0 k' (d+1)) (by show k<k';omega) h1.2 (by show 0<=7;omega) (by simp[Job.rank]))) ?_;intro k2 y _ hk2 hlt;simp only[Job.past] at hlt;cases ht2:bH ts k2 [[41]] with
       |none=>exact trivial
       |some k3=>
        have:=gV hT hk2 ht2;exact⟨by show k<k3;omega,this.2⟩
      |none=>
       simp only;cases hm:mM ts k with
       |none=>exact trivial
       |some p=>
        obtain⟨nm,k1⟩:=p;have h1:=zH hT hm;simp only;cases hq:bH ts k1 [[40]] with
        |some k2=>
         have:=gV hT h1.2 hq;exact called nm k2 aE this.2
        |none=>
         simp only;cases hd:bH ts k1 [[46]] with
         |none=>exact h1
         |some k2=>
          have h3:=gV hT h1.2 hd;simp only;cases hm2:mM ts k2 with
          |none=>exact trivial
          |some p2=>
           obtain⟨c,k3⟩:=p2;have h4:=zH hT hm2;exact⟨by show k<k3;omega,h4.2⟩
   rw[if_neg h7];by_cases h3:n=3
   ·rw[if_pos h3];unfold a4k;refine Ends.bind (next 4 aE aE) ?_;intro k1 x _ hk1 hlt;simp only[Job.past] at hlt;cases ht:fI ts k1 (dZ 3) with
    |some p=>
     obtain⟨o,k2⟩:=p;have h1:=pE hT hk1 ht;refine Ends.bind (i:= .rd 4 k2 d) (later (.rd 4 k2 d) (by show k<k2;omega) h1.2 (by show 4<=7;omega) (by simp[Job.rank])) ?_;intro k3 y _ hk3 hlt3;simp only[Job.past] at hlt3;exact⟨by show k<k3;omega,hk3⟩
    |none=>
     simp only;cases h1:bH ts k1 [sIs,gN] with
     |some k2=>
      have:=gV hT hk1 h1;exact⟨by show k<k2;omega,this.2⟩
     |none=>
      simp only;cases h2:bH ts k1 [sIs,rW,gN] with
      |some k2=>
       have:=gV hT hk1 h2;exact⟨by show k<k2;omega,this.2⟩
      |none=>exact⟨by show k<k1;omega,hk1⟩
   rw[if_neg h3];refine Ends.bind (next (n+1) aE aE) ?_;intro k1 x _ hk1 hlt;simp only[Job.past] at hlt;have:=later (.lp n k1 d x) hlt hk1 ⟨by omega,h2,h3⟩ (by simp[Job.rank])
   revert this
   cases dW ts f (.lp n k1 d x) with
   |o=>exact id
   |bad e=>exact id
   |good k3 z=>
    intro h3;have h31:k1<=k3:=h3.1;exact⟨by show k<k3;omega,h3.2⟩
end
section
abbrev kG:Type:=Int×List UInt8×(Int×Int×List UInt8)
def bt(s:List UInt8):Option (List kG):=(toks fP 0 s).map (List.map Tok.bare)
def Wd(s:List UInt8):Prop:=∃c r,s=c::r/\cZ c=true/\(∀d∈r,jP d=true)/\s.length<=30
def yL(r:List UInt8):Prop:=Stops jP r/\r.head?≠some 39
theorem yL.nil:yL []:=⟨fun c h=>by simp at h,by simp⟩
theorem yL.of{c:UInt8}(r:List UInt8)(h:jP c=false)(h':c≠39):yL (c::r):=⟨fun d hd=>by simp at hd;subst hd;exact h,by simpa using h'⟩
def a7z(o:Int):kG:=(if 13<=o then 1 else 3,bI o,(0,0,[]))
theorem rO{s:List UInt8}(h:mO s=true):Wd s/\kwB s=false:=by
 unfold mO at h;split at h
 ·cases h
 ·split at h
  ·rename_i x hx;simp only[aQ,beq_iff_eq] at h;obtain⟨hn,hs⟩:=h;unfold fH at hn;simp only[aQ,beq_iff_eq,nT] at hn;rw[hs] at hn;refine⟨?_,hn.2⟩;unfold jQ at hx;rw[mH] at hx;split at hx
   ·cases hx
   ·obtain⟨y,h1,h2⟩:=dG.1 hx;obtain⟨l,_,h3⟩:=aT.1 h2;injection h3 with h3 _;have hk:y.1=1:=(by rw[<-hn.1,<-h3]);have ht:(bX false s).take y.2.1=s:=by
     have e:x.t=(bX false s).take y.2.1:=(by rw[<-h3]);exact e.symm.trans hs
    have hl:=nN h1;have hle:=lT false s;have hlen:(bX false s).length=s.length:=by
     have:=congrArg lV ht;simp at this;omega
    have hss:bX false s=s:=by
     have:=xW false s;rw[hlen,Nat.sub_self,oC] at this;exact this
    rw[hss] at h1 ht hl;have hn2:y.2.1=s.length:=by
     have:=congrArg lV ht;simp at this;omega
    have hc:rU s=some (1,s.length):=by
     unfold rM at h1;obtain⟨z,hz,hz2⟩:=dG.1 h1;obtain⟨v,_,hv⟩:=aT.1 hz2;rw[hz];rw[<-hv] at hk hn2;simp only at hk hn2;rw[<-hk,<-hn2]
    cases s with
    |nil=>simp[rU] at hc
    |cons c r=>
     rw[jE] at hc;split at hc
     ·rename_i hlt;split at hc
      ·rename_i h30;injection hc with hc;injection hc with _ hc;simp only[aX,Nat.add_right_cancel_iff] at hc;refine⟨c,r,rfl,hlt.1,?_,by simp;omega⟩;intro d hd;exact b5a jP r d (by rw[hc,gJ];exact hd)
      ·cases hc
     ·split at hc
      ·obtain⟨_,_,e⟩:=aT.1 hc;simp at e
      ·split at hc
       ·obtain⟨_,_,e⟩:=aT.1 hc;simp at e
       ·split at hc
        ·split at hc
         ·cases hc
         ·simp at hc
        ·split at hc
         ·cases hc
         ·simp at hc
  ·cases h
def oW(v:Int×Int×List UInt8):kG:=if v.1=0\/v.1=1 then(1,lit v.1 v.2.1 v.2.2,(0,0,[])) else(2,lit v.1 v.2.1 v.2.2,v)
end
section
def sg(c:UInt8):kG:=(3,[c],(0,0,[]))
def wd(s:List UInt8):kG:=(1,s,(0,0,[]))
def lJ:List (List kG)->List kG
 |[]=>[]
 |[x]=>x
 |x::r=>x++sg 44::lJ r
def wY(f:List UInt8)(l:List kG):List kG:=wd f::sg 40::(l++[sg 41])
def wR(o:Int):List kG:=if o=17 then[wd sIs,wd gN] else[wd sIs,wd rW,wd gN]
def b5u(o:Int):kG:=if o=15 then sg 45 else wd rW
def b4p(k:Int)(v:Int×Int×List UInt8)(t n:List UInt8)(o:Int)(l:List (List kG)):List kG:=
 if k=1 then[oW v]
 else if k=2 then(if t=[] then[wd n] else[wd t,sg 46,wd n])
 else if k=4 then wY bZ (lJ l)
 else if k=5 then wY n (if l=[] then[sg 42] else lJ l)
 else if fJ o=2 then sg 40::(l.getD 0 []++a7z o::(l.getD 1 []++[sg 41]))
 else if o=19\/o=20 then wY (bI o) (lJ l)
 else if o=17\/o=18 then sg 40::(l.getD 0 []++(wR o++[sg 41]))
 else sg 40::b5u o::(l.getD 0 []++[sg 41])
mutual
def tkE:Ex->List kG
 | .mk k v t n o args=>b4p k v t n o (c5s args)
def c5s:List Ex->List (List kG)
 |[]=>[]
 |x::r=>tkE x::c5s r
end
def Lx(s:List UInt8)(b:List kG):Prop:=∀r,yL r->bt (s++r)=(bt r).map (b++·)
inductive Fits:Ex->Prop where
 |mk (k:Int) (v:Int×Int×List UInt8) (t n:List UInt8) (o:Int) (args:List Ex) (h:I64 v.2.1) (ha:∀y,y∈args->Fits y):Fits (.mk k v t n o args)
end
section
def Rest(ts:List Tok)(k:Nat)(m:List kG):Prop:=(ts.map Tok.bare).drop k=m
def bIs(b:kG)(s:List UInt8):Bool:=(b.1==1||b.1==3)&&b.2.1==s
theorem b7p(x:Tok)(s:List UInt8):isB x s=bIs x.bare s:=rfl
theorem Rest.head{ts:List Tok}{k:Nat}{b:kG}{m:List kG}(h:Rest ts k (b::m)):∃x,ts[k]?=some x/\x.bare=b:=by
 unfold Rest at h;have h0:((ts.map Tok.bare).drop k)[0]?=some b:=(by rw[h];rfl);rw[iE,Nat.add_zero,iJ] at h0;exact aT.1 h0
theorem Rest.lt{ts:List Tok}{k:Nat}{b:kG}{m:List kG}(h:Rest ts k (b::m)):k+m.length+1=ts.length:=by
 unfold Rest at h;have:=congrArg lV h;simp at this;omega
theorem Rest.next{ts:List Tok}{k:Nat}{b:kG}{m:List kG}(h:Rest ts k (b::m))(hm:m≠[]):fT ts.length k=k+1:=by
 have:=h.lt;have:0<m.length:=qH.2 hm;unfold fT;rw[if_pos aE]
theorem sK{ts:List Tok}{k:Nat}{b:kG}{m:List kG}(h:Rest ts k (b::m))(hm:m≠[]){s:List UInt8}(hb:bIs b s=true)(l:List (List UInt8)):bH ts k (s::l)=bH ts (k+1) l:=by
 obtain⟨x,hx,rfl⟩:=h.head;rw[nK hx,b7p,hb,if_pos rfl,h.next hm]
theorem take_one{ts:List Tok}{k:Nat}{b:kG}{m:List kG}(h:Rest ts k (b::m))(hm:m≠[]){s:List UInt8}(hb:bIs b s=true):bH ts k [s]=some (k+1):=sK h hm hb []
def c4d(b:kG):Prop:=bIs b [40]=false/\bIs b [46]=false
def Ev(P:Nat->Prop):Prop:=∃f0,∀f,f0<=f->P f
theorem Ev.and{P Q:Nat->Prop}(h:Ev P)(k:Ev Q):Ev fun f=>P f/\Q f:=by
 obtain⟨a,h⟩:=h;obtain⟨b,k⟩:=k;exact⟨a+b,fun f hf=>⟨h f aE,k f aE⟩⟩
theorem Ev.mono{P Q:Nat->Prop}(h:Ev P)(k:∀f,P f->Q f):Ev Q:=by
 obtain⟨a,h⟩:=h;exact⟨a,fun f hf=>k f (h f hf)⟩
theorem Ev.of{P:Nat->Prop}(h:∀f,P f):Ev P:=⟨0,fun f _=>h f⟩
theorem Ev.step{ts:List Tok}{j:Job}{r:Res}(h:Ev fun f=>nI ts (dW ts f) j=r):Ev fun f=>dW ts f j=r:=by
 obtain⟨a,h⟩:=h;refine⟨a+1,fun f hf=>?_⟩;obtain⟨g,rfl⟩:∃g,f=g+1:=⟨f-1,by omega⟩
 exact h g aE
theorem a1b(ts:List Tok)(run:Job->Res)(k d:Nat):nI ts run (.rd 2 k d)=(match bH ts k [rW] with
      |some k'=>(fB d (run (.rd 2 k' (d+1)))).bind fun k2 y=> .good k2 (opE 16 [y])
      |none=>run (.rd 3 k d)):=rfl
theorem a1a(ts:List Tok)(run:Job->Res)(k d:Nat):nI ts run (.rd 7 k d)=(match bH ts k [[45]] with
      |some k'=>(fB d (run (.rd 7 k' (d+1)))).bind fun k2 y=> .good k2 (opE 15 [y])
      |none=>kV ts run k d):=rfl
theorem xD(ts:List Tok)(run:Job->Res)(k d:Nat):nI ts run (.rd 3 k d)=a4k ts run k d:=rfl
theorem uP(ts:List Tok)(run:Job->Res){n:Nat}(k d:Nat)(h2:n≠2)(h7:n≠7)(h3:n≠3):nI ts run (.rd n k d)=(run (.rd (n+1) k d)).bind fun k1 x=>run (.lp n k1 d x):=by
 simp only[nI];rw[if_neg h2,if_neg h7,if_neg h3]
theorem wG(ts:List Tok)(run:Job->Res)(n k d:Nat)(x:Ex):nI ts run (.lp n k d x)=(match fI ts k (dZ n) with
      |none=> .good k x
      |some (o,k')=>(run (.rd (n+1) k' d)).bind fun k2 y=>run (.lp n k2 d (opE o [x,y]))):=rfl
theorem sF(ts:List Tok)(run:Job->Res)(nm:List UInt8)(k d:Nat)(acc:List Ex):nI ts run (.args nm k d acc)=(fB d (run (.rd 0 k (d+1)))).bind fun k1 x=>
  match(if nm=bZ then bH ts k1 [[44]] else none) with
  |some k2=>run (.args nm k2 d (acc++[x]))
  |none=>match bH ts k1 [[41]] with
   |some k2=> .good k2 (qO nm (acc++[x]))
   |none=> .bad 261:=rfl
def Alone(dp:Nat)(x:Ex):Prop:=∀(ts:List Tok) (k d:Nat) (b:kG) (m:List kG),Rest ts k (tkE x++b::m)->c4d b->d+dp<=60->Ev fun f=>kV ts (dW ts f) k d= .good (k+(tkE x).length) x
end
section
end
section
theorem Alone.mono{a b:Nat}{x:Ex}(h:Alone a x)(hab:a<=b):Alone b x:=fun ts k d c m hr he hd=>h ts k d c m hr he aE
end
section
def qD(x:Ex)(sv:Value):List Value:=[.int .i64 x.k,.int .i64 x.v.1,.int .i64 x.v.2.1,S x.v.2.2,S x.t,S x.n,.int .i64 x.o,sv]
theorem yI{W:World}{b o:Nat}{x:Ex}{sv:Value}(h:∀i,i<8->W.cell? ⟨b,o+i,none⟩=(qD x sv)[i]?):At8 W b o x sv:=
 ⟨h 0 aE,h 1 aE,h 2 aE,h 3 aE,h 4 aE,h 5 aE,h 6 aE,h 7 aE⟩
theorem rV{W:World}{b n:Nat}{cs:Array Value}{t:TypeId}{x:Ex}{sv:Value}(hb:W.heap[b]?=some (.cells cs t (0,0)))(h:(cs.toList.drop n).take 8=qD x sv):At8 W b n x sv:=by
 refine yI fun i hi=>?_;rw[aG hb,<-h,rA,if_pos hi,iE,oL]
def a4j(l:List (Ex×Value)):List Value:=l.flatMap fun p=>qD p.1 p.2
theorem b5e(l:List (Ex×Value))(x:Ex)(sv:Value):a4j (l++[(x,sv)])=a4j l++qD x sv:=by simp[a4j]
theorem b5f(l:List (Ex×Value)):∀(j:Nat) (p:Ex×Value),l[j]?=some p->∀i,i<8->(a4j l)[j * 8+i]?=(qD p.1 p.2)[i]?:=by
 induction l with
 |nil=>intro j p h;simp at h
 |cons q l ih=>
  intro j p h i hi;have e:a4j (q::l)=qD q.1 q.2++a4j l:=(by simp[a4j]);rw[e]
  match j,h with
  |0,h=>
   injection h with h;subst h;rw[List.getElem?_append_left (by simp[qD];omega)];simp
  |j+1,h=>
   have:=ih j p bb i hi;rw[List.getElem?_append_right (by simp[qD];omega)];rw[<-this]
   congr 1
   simp[qD];omega
end
section
theorem a4t{s:List UInt8}{ts:List Tok}(_h:jQ s=some ts):lC (ts++[eT s.length]):=by
 intro k x hx hk;have:k=ts.length:=(by simpa using hk);subst this;simp at hx;subst hx;rfl
def tl(s:List UInt8)(ts:List Tok):List Tok:=ts++[eT s.length]
def steps(ts:List Tok):Nat:=ts.length * 20+100
def uD(ts:List Tok)(k:Nat):Res:=dW ts (steps ts) (.rd 0 k 0)
theorem yM{ts:List Tok}(hT:lC ts){k:Nat}(hk:k<ts.length):Ends ts (.rd 0 k 0) (uD ts k):=
 a9p hT _ _ hk (by show 0<=7;omega) (by simp only[Job.most,Job.at,Job.rank,steps];omega)
def iC(s:List UInt8):Int×Ex:=
 if 4000<s.length then(3,zeroE) else match jQ s with
  |none=>(250,zeroE)
  |some ts=>match uD (ts++[eT s.length]) 0 with
   | .o=>(0,zeroE)
   | .bad c=>(c,zeroE)
   | .good k x=>if((ts++[eT s.length])[k]?).map (·.k)=some 4 then(0,x) else(261,zeroE)
end
section
abbrev set8(W:World)(b:Nat)(y0 y1 y2 y3 y4 y5 y6 y7:Value):World:=(((((((W.setCell ⟨b,0,none⟩ y0).setCell ⟨b,1,none⟩ y1).setCell ⟨b,2,none⟩ y2).setCell ⟨b,3,none⟩ y3).setCell ⟨b,4,none⟩ y4).setCell ⟨b,5,none⟩ y5).setCell ⟨b,6,none⟩ y6).setCell ⟨b,7,none⟩ y7
theorem bO{w:World}{b:Nat}{x0 x1 x2 x3 x4 x5 x6 x7:Value}{t:TypeId}(h:w.heap[b]?=some (.cells #[x0,x1,x2,x3,x4,x5,x6,x7] t (0,0)))(y0 y1 y2 y3 y4 y5 y6 y7:Value):
  (set8 w b y0 y1 y2 y3 y4 y5 y6 y7).heap[b]?=some (.cells #[y0,y1,y2,y3,y4,y5,y6,y7] t (0,0)):=by
 simp[set8,dX,dC,h]
theorem bP(W:World){b i:Nat}(hi:i≠b)(y0 y1 y2 y3 y4 y5 y6 y7:Value):(set8 W b y0 y1 y2 y3 y4 y5 y6 y7).heap[i]?=W.heap[i]?:=by
 rw[set8,aM _ ⟨b,7,none⟩ _ _ hi,aM _ ⟨b,6,none⟩ _ _ hi,aM _ ⟨b,5,none⟩ _ _ hi,aM _ ⟨b,4,none⟩ _ _ hi,aM _ ⟨b,3,none⟩ _ _ hi,aM _ ⟨b,2,none⟩ _ _ hi,aM _ ⟨b,1,none⟩ _ _ hi,aM _ ⟨b,0,none⟩ _ _ hi]
theorem qY{w W:World}{b:Nat}(h:Bl w W)(hb:w.heap.size<=b)(y0 y1 y2 y3 y4 y5 y6 y7:Value):Bl w (set8 W b y0 y1 y2 y3 y4 y5 y6 y7):=
 (((((((h.set hb _).set hb _).set hb _).set hb _).set hb _).set hb _).set hb _).set hb _
theorem zU(W:World)(b:Nat)(y0 y1 y2 y3 y4 y5 y6 y7:Value):(set8 W b y0 y1 y2 y3 y4 y5 y6 y7).heap.size=W.heap.size:=by simp[set8]
theorem eight{W:World}{b:Nat}{x0 x1 x2 x3 x4 x5 x6 x7:Value}{t:TypeId}(h:W.heap[b]?=some (.cells #[x0,x1,x2,x3,x4,x5,x6,x7] t (0,0))):
  (W.cell? ⟨b,0,none⟩=some x0/\W.cell? ⟨b,1,none⟩=some x1/\W.cell? ⟨b,2,none⟩=some x2/\W.cell? ⟨b,3,none⟩=some x3/\W.cell? ⟨b,4,none⟩=some x4/\W.cell? ⟨b,5,none⟩=some x5/\W.cell? ⟨b,6,none⟩=some x6/\W.cell? ⟨b,7,none⟩=some x7)/\
  (W.frozen? ⟨b,0,none⟩=false/\W.frozen? ⟨b,1,none⟩=false/\W.frozen? ⟨b,2,none⟩=false/\W.frozen? ⟨b,3,none⟩=false/\W.frozen? ⟨b,4,none⟩=false/\W.frozen? ⟨b,5,none⟩=false/\W.frozen? ⟨b,6,none⟩=false/\W.frozen? ⟨b,7,none⟩=false):=
 ⟨⟨by rw[aG h];rfl,by rw[aG h];rfl,by rw[aG h];rfl,by rw[aG h];rfl,by rw[aG h];rfl,by rw[aG h];rfl,by rw[aG h];rfl,by rw[aG h];rfl⟩,
  ⟨aJ h 0,aJ h 1,aJ h 2,aJ h 3,aJ h 4,aJ h 5,aJ h 6,aJ h 7⟩⟩
inductive bG (p:Nat->Prop) (W:World):Value->List Ex->Prop where
 |mk (a:Option Addr) (cap:Nat) (l:List Ex) (s:Nat->Value) (h1:∀j x,l[j]?=some x->∃b off,a=some ⟨b,off,none⟩/\p b/\At8 W b (off+j * 8) x (s j)) (h2:∀j x,l[j]?=some x->bG p W (s j) x.args):bG p W (.slice a l.length cap) l
def gM(p:Nat->Prop)(W:World)(x:Ex)(v:Value):Prop:=∃sv,v=EV x.k x.v x.t x.n x.o sv/\bG p W sv x.args
abbrev tT(n:Nat):World->Value->List Ex->Prop:=bG fun b=>n<=b
abbrev pU(n:Nat):World->Ex->Value->Prop:=gM fun b=>n<=b
theorem bG.keep{p q:Nat->Prop}{W W':World}(hm:∀b,p b->q b)(hk:∀b,p b->b<W.heap.size->W'.heap[b]?=W.heap[b]?){sv:Value}{l:List Ex}(h:bG p W sv l):bG q W' sv l:=by
 induction h with
 |mk a cap l s h1 _ ih=>
  refine .mk a cap l s (fun j x hx=>?_) ih;obtain⟨b,off,e,hb,h8⟩:=h1 j x hx;exact⟨b,off,e,hm b hb,h8.keep (hk b hb (by have:=bB _ _ h8.1;simpa using this))⟩
theorem bG.of{p q:Nat->Prop}{W:World}{sv:Value}{l:List Ex}(h:bG p W sv l)(hm:∀b,b<W.heap.size->p b->q b):bG q W sv l:=by
 induction h with
 |mk a cap l s h1 _ ih=>
  refine .mk a cap l s (fun j x hx=>?_) ih;obtain⟨b,off,e,hb,h8⟩:=h1 j x hx;exact⟨b,off,e,hm b (by have:=bB _ _ h8.1;simpa using this) hb,h8⟩
theorem tT.low{n m:Nat}{W:World}{sv:Value}{l:List Ex}(h:tT n W sv l)(hm:m<=n):tT m W sv l:=h.keep (fun _b hb=>jH hm hb) fun _ _ _=>rfl
theorem bG.bl{p:Nat->Prop}{W W':World}{sv:Value}{l:List Ex}(h:bG p W sv l)(hb:Bl W W'):bG p W' sv l:=h.keep (fun _ h=>h) fun b _ hl=>hb.block b hl
theorem bG.reads{p:Nat->Prop}{W:World}{sv:Value}{l:List Ex}(h:bG p W sv l):gU W sv l:=by
 induction h with
 |mk a cap l s h1 _ ih=>
  refine .mk a cap l s (fun j x hx=>?_) ih;obtain⟨b,off,e,hb,h8⟩:=h1 j x hx;exact⟨b,off,e,h8⟩
theorem bG.shape{p:Nat->Prop}{W:World}{sv:Value}{l:List Ex}(h:bG p W sv l):∃a cap,sv= .slice a l.length cap:=by
 cases h with
 |mk a cap l s h1 h2=>exact⟨a,cap,rfl⟩
theorem gM.keep{p q:Nat->Prop}{W W':World}(hm:∀b,p b->q b)(hk:∀b,p b->b<W.heap.size->W'.heap[b]?=W.heap[b]?){x:Ex}{v:Value}(h:gM p W x v):gM q W' x v:=by
 obtain⟨sv,e,h⟩:=h;exact⟨sv,e,h.keep hm hk⟩
theorem pU.low{n m:Nat}{W:World}{x:Ex}{v:Value}(h:pU n W x v)(hm:m<=n):pU m W x v:=h.keep (fun _b hb=>jH hm hb) fun _ _ _=>rfl
theorem gM.bl{p:Nat->Prop}{W W':World}{x:Ex}{v:Value}(h:gM p W x v)(hb:Bl W W'):gM p W' x v:=h.keep (fun _ h=>h) fun b _ hl=>hb.block b hl
theorem gM.reads{p:Nat->Prop}{W:World}{x:Ex}{v:Value}(h:gM p W x v):eO W x v:=by
 obtain⟨sv,e,h⟩:=h;exact⟨sv,e,h.reads⟩
theorem bG.nil(p:Nat->Prop)(W:World)(a:Option Addr)(cap:Nat):bG p W (.slice a 0 cap) []:= .mk a cap [] (fun _=> .slice none 0 0) (fun j x h=>by simp at h) (fun j x h=>by simp at h)
theorem a9z{p:Nat->Prop}{W:World}{b:Nat}{t:TypeId}{x:Ex}{sv:Value}(cap:Nat)(hn:p b)(hb:W.heap[b]?=some (.cells #[.int .i64 x.k,.int .i64 x.v.1,.int .i64 x.v.2.1,S x.v.2.2,S x.t,S x.n,.int .i64 x.o,sv] t (0,0)))(hr:bG p W sv x.args):
  bG p W (.slice (some ⟨b,0,none⟩) 1 cap) [x]:=by
 refine .mk (some ⟨b,0,none⟩) cap [x] (fun _=>sv) (fun j y hy=>?_) (fun j y hy=>?_)
 ·match j,hy with
  |0,hy=>
   injection hy with hy;subst hy;exact⟨b,0,rfl,hn,rV hb rfl⟩
  |j+1,hy=>simp at hy
 ·match j,hy with
  |0,hy=>
   injection hy with hy;subst hy;exact hr
  |j+1,hy=>simp at hy
theorem b8f{p:Nat->Prop}{W:World}{b:Nat}{t:TypeId}{x y:Ex}{sv sw:Value}(cap:Nat)(hn:p b)
  (hb:W.heap[b]?=some (.cells #[.int .i64 x.k,.int .i64 x.v.1,.int .i64 x.v.2.1,S x.v.2.2,S x.t,S x.n,.int .i64 x.o,sv,.int .i64 y.k,.int .i64 y.v.1,.int .i64 y.v.2.1,S y.v.2.2,S y.t,S y.n,.int .i64 y.o,sw] t (0,0)))
  (hr:bG p W sv x.args) (hs:bG p W sw y.args):bG p W (.slice (some ⟨b,0,none⟩) 2 cap) [x,y]:=by
 refine .mk (some ⟨b,0,none⟩) cap [x,y] (fun j=>if j=0 then sv else sw) (fun j z hz=>?_) (fun j z hz=>?_)
 ·match j,hz with
  |0,hz=>
   injection hz with hz;subst hz;exact⟨b,0,rfl,hn,rV hb rfl⟩
  |1,hz=>
   injection hz with hz;subst hz;exact⟨b,0,rfl,hn,rV hb rfl⟩
  |j+2,hz=>simp at hz
 ·match j,hz with
  |0,hz=>
   injection hz with hz;subst hz;exact hr
  |1,hz=>
   injection hz with hz;subst hz;exact hs
  |j+2,hz=>simp at hz
theorem c7f{p:Nat->Prop}{W:World}{base g cap:Nat}{l:List (Ex×Value)}(h:W.ownsRow base 38 8 (.slice (some ⟨g,0,none⟩) l.length cap) l.length (a4j l))(hn:p g)(hr:∀q∈l,bG p W q.2 q.1.args):bG p W (.slice (some ⟨g,0,none⟩) l.length cap) (l.map (·.1)):=by
 have hm:l.length=(l.map (·.1)).length:=aa;rw[hm];refine .mk (some ⟨g,0,none⟩) cap (l.map (·.1)) (fun j=>((l[j]?).map (·.2)).getD (.slice none 0 0)) (fun j x hx=>?_) (fun j x hx=>?_)
 ·rw[iJ] at hx;obtain⟨q,hp,rfl⟩:=aT.1 hx;refine⟨g,0,rfl,hn,?_⟩;rw[hp];refine yI fun i hi=>?_;have hat:=b5f l j q hp i hi;have hlt:=(aO.1 hp).1;have hc:=h.cellAt (j * 8+i) aE;rw[gD];exact hc.trans hat
 ·rw[iJ] at hx;obtain⟨q,hp,rfl⟩:=aT.1 hx;rw[hp];exact hr q (dJ hp)
theorem bM{P:Program}{ops:Array Oper}{Q:Exit->Act->World->Prop}{id:Nat}{a:Act}{w:World}(S:World->Prop)(s:Sc)(hm:P.follows .mixedOrders=true)(hs:jZ ops=true)(hB:scB ops ops.size s (kD ops.size false)=true)
  (hQ:∀(c:_) (a:Act) (d:Option Tmp) (v:Value) (w:World),Q (.panic c) (a.put d v) w->Q (.panic c) a w) (hS:S w.drew) (h:∀wd,Hid (Bl w wd)->S wd->a2w P ops Q S s a wd):(Code.region id ops true).wp P Q a w:=
 qP S s hm hs hB hQ hS (h _ ((Bl.refl w).drew) hS)
def Says(r:Res)(k:Nat)(x:Ex)(c:Int):Prop:=(c=0/\r= .good k x)\/((c=260\/c=261)/\r= .bad c)
def a2s(g cap:Nat)(ts:List Tok)(W:World)(r:Res)(e:Ending)(w':World):Prop:=
 ∃k x v c,k<ts.length/\pU W.heap.size w' x v/\e= .returned (.tuple #[RS g ts.length cap k,v,.int .i64 c])/\Bl W w'/\Says r k x c
theorem a2s.from{g cap:Nat}{ts:List Tok}{W0 W:World}{r:Res}{e:Ending}{w':World}(hb:Bl W0 W)(h:a2s g cap ts W r e w'):a2s g cap ts W0 r e w':=by
 obtain⟨k,x,v,c,h1,h2,h3,h4,h5⟩:=h;exact⟨k,x,v,c,h1,h2.low hb.size,h3,hb.call h4,h5⟩
theorem Says.bind{r:Res}{k:Nat}{x:Ex}{c:Int}(h:Says r k x c)(g:Ex->Ex):Says (r.bind fun k y=> .good k (g y)) k (g x) c:=by
 rcases h with⟨rfl,rfl⟩|⟨hc,rfl⟩
 ·exact .inl ⟨rfl,rfl⟩
 ·exact .inr ⟨hc,rfl⟩
theorem Says.no{r:Res}{k:Nat}{x:Ex}{c:Int}(h:Says r k x c)(hc:c≠0):(c=260\/c=261)/\r= .bad c:=by
 rcases h with⟨rfl,_⟩|h
 ·exact absurd rfl hc
 ·exact h
theorem Says.yes{r:Res}{k:Nat}{x:Ex}(h:Says r k x 0):r= .good k x:=by
 rcases h with⟨_,h⟩|⟨hc,_⟩
 ·exact h
 ·omega
theorem lG{r:Res}{g:Nat->Ex->Res}(h:r.bind g≠ .o):r≠ .o:=fun e=>h (by rw[e];rfl)
theorem bK{A B:World}{a x:Nat}{oa ox:Obj}(h:A.heap[a]?=some oa/\A.heap[x]?=some ox)(hb:Bl A B):B.heap[a]?=some oa/\B.heap[x]?=some ox:=
 ⟨(hb.block _ (aC.1 h.1).1).trans h.1,(hb.block _ (aC.1 h.2).1).trans h.2⟩
end
section
mutual
def fC:Ex->Nat
 | .mk _ _ _ _ _ args=>1+fF args
def fF:List Ex->Nat
 |[]=>0
 |x::r=>fC x+fF r
end
theorem oM(x:Ex):1<=fC x:=by cases x;simp only[fC];omega
theorem a2d:∀{l:List Ex} {y:Ex},y∈l->fC y<=fF l
 |x::r,y,h=>by
  simp only[fF];rcases dD.1 h with rfl|h
  ·omega
  ·have:=a2d h;omega
theorem a2e:∀l:List Ex,l.length<=fF l
 |[]=>by simp[fF]
 |x::r=>by
  have:=a2e r;have:=oM x;simp only[fF,aX];omega
theorem a2f(x:Ex):fC x=1+fF x.args:=by cases x;simp only[fC,Ex.args]
theorem sH{x y:Ex}(h:y∈x.args):fC y<fC x:=by
 have:=a2d h;rw[a2f x];omega
theorem sG(x:Ex):x.args.length<fC x:=by
 have:=a2e x.args;rw[a2f x];omega
theorem a3m(a b:List Ex):fF (a++b)=fF a+fF b:=by
 induction a with
 |nil=>simp[fF]
 |cons x r ih=>simp[fF,ih];omega
theorem gU.shape{W:World}{sv:Value}{l:List Ex}(h:gU W sv l):∃a cap,sv= .slice a l.length cap/\∀j,(h:j<l.length)->∃b off s,a=some ⟨b,off,none⟩/\At8 W b (off+j * 8) l[j] s/\gU W s l[j].args:=by
 cases h with
 |mk a cap l s h1 h2=>
  refine⟨a,cap,rfl,fun j hj=>?_⟩;have hx:l[j]?=some l[j]:=aP hj;obtain⟨b,off,e,h8⟩:=h1 j _ hx;exact⟨b,off,s j,e,h8,h2 j _ hx⟩
theorem a6w{l m:List Ex}{j:Nat}(hj:j<l.length)(hk:j<m.length):lQ (l.drop j) (m.drop j)=(kR l[j] m[j]&&lQ (l.drop (j+1)) (m.drop (j+1))):=by
 rw[aZ hj,aZ hk];rfl
theorem a1x:∀{l m:List Ex},lQ l m=true->l.length=m.length
 |[],[],_=>rfl
 |[],_::_,h=>by simp[lQ] at h
 |_::_,[],h=>by simp[lQ] at h
 |x::r,y::s,h=>by
  simp only[lQ,aQ] at h;have:=a1x h.2;simp[this]
def Job.made:Job->Nat
 | .rd _ _ _=>0
 | .lp _ _ _ x=>fC x
 | .args _ _ _ acc=>1+fF acc
def Made(ts:List Tok)(j:Job):Res->Prop
 | .good k x=>k<ts.length/\fC x+j.at<=j.made+k
 |_=>True
theorem Made.bind{ts:List Tok}{i j:Job}{r:Res}{g:Nat->Ex->Res}(h:Made ts i r)(hg:∀k x,k<ts.length->fC x+i.at<=i.made+k->Made ts j (g k x)):Made ts j (r.bind g):=by
 cases r with
 |o=>exact trivial
 |bad e=>exact trivial
 |good k x=>exact hg k x h.1 h.2
theorem Made.deeper{ts:List Tok}{j:Job}{d:Nat}{r:Res}(h:Made ts j r):Made ts j (fB d r):=by
 unfold fB;split
 ·exact h
 ·exact trivial
theorem Made.less{ts:List Tok}{i j:Job}{r:Res}(h:Made ts i r)(hl:i.made+j.at<=j.made+i.at):Made ts j r:=by
 cases r with
 |o=>exact trivial
 |bad e=>exact trivial
 |good k x=>exact⟨h.1,by have:=h.2;omega⟩
theorem qV(o:Int)(l:List Ex):fC (opE o l)=1+fF l:=by unfold opE;simp only[fC]
theorem a5n(v:Int×Int×List UInt8):fC (b3v v)=1:=by unfold b3v;simp only[fC,fF]
theorem a5o(t n:List UInt8):fC (b3w t n)=1:=by unfold b3w;simp only[fC,fF]
theorem a2g(nm:List UInt8)(l:List Ex):fC (qO nm l)=1+fF l:=by
 unfold qO;split
 ·exact qV _ _
 split
 ·exact qV _ _
 split
 ·simp only[fC]
 ·simp only[fC]
theorem b9w{ts:List Tok}(hT:lC ts){k:Nat}{x:Tok}(hx:ts[k]?=some x)(h4:x.k≠4):k<fT ts.length k/\fT ts.length k<ts.length:=by
 have:=zG hT hx h4;omega
theorem kS{ts:List Tok}(hT:lC ts){s:List UInt8}{k k':Nat}(hk:k<ts.length)(h:bH ts k [s]=some k'):k<k'/\k'<ts.length:=by
 have:=gV hT hk h;simp only[dB] at this;omega
theorem run_parts{ts:List Tok}(hT:lC ts):∀(f:Nat) (j:Job),j.at<ts.length->Made ts j (dW ts f j)
 |0,j,_=>trivial
 |f+1,j,hk=>by
  have ih:=run_parts hT f;simp only[dW];cases j with
  |lp n k d x=>
   simp only[Job.at] at hk;rw[wG];cases ht:fI ts k (dZ n) with
   |none=>exact⟨hk,by simp only[Job.at,Job.made];omega⟩
   |some p=>
    obtain⟨o,k'⟩:=p;have h1:=pE hT hk ht;refine Made.bind (ih (.rd (n+1) k' d) h1.2) fun k2 y hk2 hp=>?_;simp only[Job.at,Job.made] at hp;refine(ih (.lp n k2 d (opE o [x,y])) hk2).less ?_;simp only[Job.at,Job.made];rw[qV];simp only[fF];omega
  |args nm k d acc=>
   simp only[Job.at] at hk;rw[sF];refine Made.bind (i:= .rd 0 k (d+1)) (ih (.rd 0 k (d+1)) hk).deeper fun k1 x hk1 hp=>?_;simp only[Job.at,Job.made] at hp;have he:fF (acc++[x])=fF acc+fC x:=(by rw[a3m];simp[fF]);cases hc:(if nm=bZ then bH ts k1 [[44]] else none) with
   |some k2=>
    have h2:k1<k2/\k2<ts.length:=by
     split at hc
     ·exact kS hT hk1 hc
     ·cases hc
    refine(ih (.args nm k2 d (acc++[x])) h2.2).less ?_;simp only[Job.at,Job.made];omega
   |none=>
    simp only;cases ht:bH ts k1 [[41]] with
    |none=>exact trivial
    |some k2=>
     have:=kS hT hk1 ht;refine⟨this.2,?_⟩;rw[a2g];simp only[Job.at,Job.made];omega
  |rd n k d=>
   simp only[Job.at] at hk;have called:∀(nm:List UInt8) (k2:Nat),k<k2->k2<ts.length->Made ts (.rd n k d) (iW ts (dW ts f) nm k2 d):=by
    intro nm k2 h1 h2;have hargs:Made ts (.rd n k d) (dW ts f (.args nm k2 d [])):=(ih (.args nm k2 d []) h2).less (by simp only[Job.at,Job.made,fF];omega);unfold iW;split
    ·exact trivial
    ·split
     ·cases ht:bH ts k2 [[42],[41]] with
      |none=>exact hargs
      |some k3=>
       have:=gV hT h2 ht;simp only[aX,bL] at this;refine⟨this.2,?_⟩;rw[a2g];simp only[Job.at,Job.made,fF];omega
     ·exact hargs
   by_cases h2:n=2
   ·subst h2;rw[a1b];cases ht:bH ts k [rW] with
    |none=>exact(ih (.rd 3 k d) hk).less (aH _)
    |some k'=>
     have h1:=kS hT hk ht;refine Made.bind (i:= .rd 2 k' (d+1)) (ih (.rd 2 k' (d+1)) h1.2).deeper fun k2 y hk2 hp=>⟨hk2,?_⟩
     rw[qV];simp only[Job.at,Job.made,fF] at hp⊢;omega
   by_cases h7:n=7
   ·subst h7;rw[a1a];cases ht:bH ts k [[45]] with
    |some k'=>
     have h1:=kS hT hk ht;refine Made.bind (i:= .rd 7 k' (d+1)) (ih (.rd 7 k' (d+1)) h1.2).deeper fun k2 y hk2 hp=>⟨hk2,?_⟩
     rw[qV];simp only[Job.at,Job.made,fF] at hp⊢;omega
    |none=>
     simp only;unfold kV;obtain⟨x,hx⟩:∃x,ts[k]?=some x:=⟨_,aP hk⟩
     rw[hx];simp only;by_cases hv:x.k=2
     ·rw[if_pos hv];have:=b9w hT hx aE;refine⟨this.2,?_⟩;rw[a5n];simp only[Job.at,Job.made];omega
     rw[if_neg hv];cases hc:fZ ts k [(kE,0),(nW,1),(gN,2)] with
     |some p=>
      obtain⟨k',i⟩:=p;have:=a0r hT hk hc;refine⟨this.2,?_⟩;rw[a5n];simp only[Job.at,Job.made];omega
     |none=>
      simp only;cases hp:bH ts k [[40]] with
      |some k'=>
       have h1:=kS hT hk hp;refine Made.bind (i:= .rd 0 k' (d+1)) (ih (.rd 0 k' (d+1)) h1.2).deeper fun k2 y hk2 hq=>?_;simp only[Job.at,Job.made] at hq;cases ht2:bH ts k2 [[41]] with
       |none=>exact trivial
       |some k3=>
        have:=kS hT hk2 ht2;refine⟨this.2,?_⟩;simp only[Job.at,Job.made];omega
      |none=>
       simp only;cases hm:mM ts k with
       |none=>exact trivial
       |some p=>
        obtain⟨nm,k1⟩:=p;have h1:=zH hT hm;simp only;cases hq:bH ts k1 [[40]] with
        |some k2=>
         have:=kS hT h1.2 hq;exact called nm k2 aE this.2
        |none=>
         simp only;cases hd:bH ts k1 [[46]] with
         |none=>
          refine⟨h1.2,?_⟩;rw[a5o];simp only[Job.at,Job.made];omega
         |some k2=>
          have h3:=kS hT h1.2 hd;simp only;cases hm2:mM ts k2 with
          |none=>exact trivial
          |some p2=>
           obtain⟨c,k3⟩:=p2;have h4:=zH hT hm2;refine⟨h4.2,?_⟩;rw[a5o];simp only[Job.at,Job.made];omega
   by_cases h3:n=3
   ·subst h3;rw[xD];unfold a4k;refine Made.bind (ih (.rd 4 k d) hk) fun k1 x hk1 hp=>?_;simp only[Job.at,Job.made] at hp;cases ht:fI ts k1 (dZ 3) with
    |some p=>
     obtain⟨o,k2⟩:=p;have h1:=pE hT hk1 ht;refine Made.bind (ih (.rd 4 k2 d) h1.2) fun k3 y hk3 hq=>⟨hk3,?_⟩
     rw[qV];simp only[Job.at,Job.made,fF] at hq⊢;omega
    |none=>
     simp only;cases h1:bH ts k1 [sIs,gN] with
     |some k2=>
      have:=gV hT hk1 h1;simp only[aX,bL] at this;refine⟨this.2,?_⟩;rw[qV];simp only[Job.at,Job.made,fF];omega
     |none=>
      simp only;cases h2:bH ts k1 [sIs,rW,gN] with
      |some k2=>
       have:=gV hT hk1 h2;simp only[aX,bL] at this;refine⟨this.2,?_⟩;rw[qV];simp only[Job.at,Job.made,fF];omega
      |none=>exact⟨hk1,by simp only[Job.at,Job.made];omega⟩
   rw[uP _ _ _ _ h2 h7 h3];refine Made.bind (ih (.rd (n+1) k d) hk) fun k1 x hk1 hp=>?_;simp only[Job.at,Job.made] at hp;exact(ih (.lp n k1 d x) hk1).less (by simp only[Job.at,Job.made];omega)
end
section
structure It where
 star:Bool
 t:List UInt8
 x:Ex
 al:List UInt8
structure So where
 t:List UInt8
 al:List UInt8
structure Jo where
 s:So
 on:Ex
structure Od where
 x:Ex
 down:Bool
structure Qu where
 distinct:Bool
 items:List It
 frm:So
 joins:List Jo
 wher:Ex
 group:List Ex
 having:Ex
 orders:List Od
 limit:Int
def d3z:Qu:=⟨false,[],⟨[],[]⟩,[],zeroE,[],zeroE,[],0⟩
inductive d2u (α:Type) where
 |bad (e:Int)
 |good (k:Nat) (x:α)
def d2u.bind{α β:Type}:d2u α->(Nat->α->d2u β)->d2u β
 | .bad e,_=> .bad e
 | .good k x,f=>f k x
def wAs:List UInt8:=[97,115]
def d3h:List UInt8:=[115,101,108,101,99,116]
def d2s:List UInt8:=[100,105,115,116,105,110,99,116]
def d5p:List UInt8:=[102,114,111,109]
def d5v:List UInt8:=[106,111,105,110]
def wOn:List UInt8:=[111,110]
def d6o:List UInt8:=[119,104,101,114,101]
def d4q:List UInt8:=[103,114,111,117,112]
def wBy:List UInt8:=[98,121]
def d3v:List UInt8:=[104,97,118,105,110,103]
def d5n:List UInt8:=[111,114,100,101,114]
def e6b:List UInt8:=[97,115,99]
def d4e:List UInt8:=[100,101,115,99]
def d6p:List UInt8:=[108,105,109,105,116]
def wReturning:List UInt8:=[114,101,116,117,114,110,105,110,103]
def d3j(ts:List Tok)(k:Nat):d2u Ex:=match uD ts k with
 | .o=> .bad 0
 | .bad e=> .bad e
 | .good k' x=> .good k' x
def asR(ts:List Tok)(k:Nat):d2u (List UInt8):=match bH ts k [wAs] with
 |none=> .good k []
 |some k1=>match mM ts k1 with
  |none=> .bad 261
  |some (n,k2)=> .good k2 n
def d3b(ts:List Tok)(k:Nat):d2u So:=match mM ts k with
 |none=> .bad 261
 |some (n,k1)=>(asR ts k1).bind fun k2 a=> .good k2 ⟨n,a⟩
def d3x(ts:List Tok)(k:Nat):d2u It:=match bH ts k [[42]] with
 |some k1=> .good k1 ⟨true,[],zeroE,[]⟩
 |none=>match(mM ts k).bind fun p=>(bH ts p.2 [[46],[42]]).map fun k2=>(p.1,k2) with
  |some (n,k2)=> .good k2 ⟨true,n,zeroE,[]⟩
  |none=>(d3j ts k).bind fun k1 x=>(asR ts k1).bind fun k2 a=> .good k2 ⟨false,[],x,a⟩
def d3o{α:Type}(ts:List Tok)(one:Nat->d2u α):Nat->Nat->List α->d2u (List α)
 |0,_,_=> .bad 0
 |f+1,k,acc=>(one k).bind fun k1 x=>match bH ts k1 [[44]] with
  |some k2=>d3o ts one f k2 (acc++[x])
  |none=> .good k1 (acc++[x])
def d7m(ts:List Tok)(k:Nat):d2u (List It):=d3o ts (d3x ts) ts.length k []
def d5h(ts:List Tok)(k:Nat):d2u Jo:=(d3b ts k).bind fun k1 s=>match bH ts k1 [wOn] with
 |none=> .bad 261
 |some k2=>(d3j ts k2).bind fun k3 x=> .good k3 ⟨s,x⟩
def d4u(ts:List Tok):Nat->Nat->List Jo->d2u (List Jo)
 |0,_,_=> .bad 0
 |f+1,k,acc=>match bH ts k [d5v] with
  |none=> .good k acc
  |some k1=>(d5h ts k1).bind fun k2 j=>d4u ts f k2 (acc++[j])
def d3s(ts:List Tok)(w:List UInt8)(k:Nat):d2u Ex:=match bH ts k [w] with
 |none=> .good k zeroE
 |some k1=>d3j ts k1
def d3f(ts:List Tok)(k:Nat):d2u Od:=(d3j ts k).bind fun k1 x=>match bH ts k1 [e6b] with
 |some k2=> .good k2 ⟨x,false⟩
 |none=>match bH ts k1 [d4e] with
  |some k2=> .good k2 ⟨x,true⟩
  |none=> .good k1 ⟨x,false⟩
def d4v(ts:List Tok)(k:Nat):d2u (List Ex):=match bH ts k [d4q,wBy] with
 |none=> .good k []
 |some k1=>d3o ts (d3j ts) ts.length k1 []
def d5u(ts:List Tok)(g:List Ex)(k:Nat):d2u Ex:=if g=[] then .good k zeroE else d3s ts d3v k
def d5s(ts:List Tok)(k:Nat):d2u (List Od):=match bH ts k [d5n,wBy] with
 |none=> .good k []
 |some k1=>d3o ts (d3f ts) ts.length k1 []
def d8h(ts:List Tok)(k:Nat):d2u Int:=match bH ts k [d6p] with
 |none=> .good k (-1)
 |some k1=>match ts[k1]? with
  |none=> .bad 261
  |some x=>if x.v.1=2 then .good (fT ts.length k1) x.v.2.1 else .bad 261
def d6b(ts:List Tok)(k:Nat):d2u Qu:=match bH ts k [d3h] with
 |none=> .bad 261
 |some k1=>(d7m ts ((bH ts k1 [d2s]).getD k1)).bind fun k2 items=>match bH ts k2 [d5p] with
  |none=> .bad 261
  |some k3=>(d3b ts k3).bind fun k4 frm=>(d4u ts ts.length k4 []).bind fun k5 joins=>(d3s ts d6o k5).bind fun k6 wher=>
   (d4v ts k6).bind fun k7 group=>(d5u ts group k7).bind fun k8 having=>(d5s ts k8).bind fun k9 orders=>(d8h ts k9).bind fun k10 limit=>
    .good k10 ⟨(bH ts k1 [d2s]).isSome,items,frm,joins,wher,group,having,orders,limit⟩
def d7t(q:Qu):Bool:=decide (32<q.items.length)||decide (4<q.joins.length)||decide (8<q.group.length)||decide (8<q.orders.length)
def d5c(ts:List Tok)(k:Nat):d2u Qu:=(d6b ts k).bind fun k' q=>if d7t q then .bad 270 else .good k' q
def readItems(ts:List Tok)(k:Nat):d2u (List It):=(d7m ts k).bind fun k' l=>if 32<l.length then .bad 270 else .good k' l
end
section
def d3i(x:Ex):Bool:=kR x zeroE
def d3c(s:List UInt8):Bool:=s==[]||mO s
def d4c(s:So):Bool:=mO s.t&&d3c s.al
def d3r(i:It):Bool:=if i.star then d3i i.x&&i.al==[]&&d3c i.t else i.t==[]&&eH i.x&&d3c i.al
def d4l(l:List It):Bool:=decide (0<l.length)&&decide (l.length<=32)&&l.all d3r
def d3e(q:Qu):Bool:=
 d4l q.items&&d4c q.frm&&(d3i q.wher||eH q.wher)&&(d3i q.having||eH q.having&&decide (0<q.group.length))&&decide (-1<=q.limit)&&
 (decide (q.joins.length<=4)&&q.joins.all fun j=>d4c j.s&&eH j.on)&&(decide (q.group.length<=8)&&q.group.all eH)&&(decide (q.orders.length<=8)&&q.orders.all fun o=>eH o.x)
def d4t(s al:List UInt8):List UInt8:=if al=[] then s else s++[32]++wAs++[32]++al
def d5x(i:It):List UInt8:=if i.star then(if i.t=[] then[42] else i.t++[46,42]) else d4t (eY i.x) i.al
def d5q(l:List It):List UInt8:=jR [44,32] (l.map d5x)
def d4g(s:So):List UInt8:=d4t s.t s.al
def e0o(j:Jo):List UInt8:=[32]++d5v++[32]++d4g j.s++[32]++wOn++[32]++eY j.on
def d4r(o:Od):List UInt8:=eY o.x++(if o.down then[32]++d4e else[])
def d8n(q:Qu):List UInt8:=
 d3h++[32]++(if q.distinct then d2s++[32] else[])++d5q q.items++[32]++d5p++[32]++d4g q.frm++q.joins.flatMap e0o++
 (if d3i q.wher then[] else[32]++d6o++[32]++eY q.wher)++(if q.group=[] then[] else[32]++d4q++[32]++wBy++[32]++jR [44,32] (q.group.map eY))++
 (if d3i q.having then[] else[32]++d3v++[32]++eY q.having)++(if q.orders=[] then[] else[32]++d5n++[32]++wBy++[32]++jR [44,32] (q.orders.map d4r))++
 (if 0<=q.limit then[32]++d6p++[32]++dQ q.limit else[])
def sameIt(a b:It):Bool:=a.star==b.star&&a.t==b.t&&a.al==b.al&&kR a.x b.x
def samesBy{α:Type}(f:α->α->Bool):List α->List α->Bool
 |[],[]=>true
 |x::r,y::s=>f x y&&samesBy f r s
 |_,_=>false
def sameSo(a b:So):Bool:=a.t==b.t&&a.al==b.al
def sameJo(a b:Jo):Bool:=sameSo a.s b.s&&kR a.on b.on
def sameOd(a b:Od):Bool:=a.down==b.down&&kR a.x b.x
def sameQ(a b:Qu):Bool:=a.distinct==b.distinct&&samesBy sameIt a.items b.items&&sameSo a.frm b.frm&&kR a.wher b.wher&&kR a.having b.having&&a.limit==b.limit&&lQ a.group b.group&&samesBy sameJo a.joins b.joins&&samesBy sameOd a.orders b.orders
theorem samesBy_self{α:Type}{f:α->α->Bool}(h:∀x,f x x=true):∀l:List α,samesBy f l l=true
 |[]=>rfl
 |x::l=>by simp[samesBy,h x,samesBy_self h l]
theorem sameQ_self(q:Qu):sameQ q q=true:=by
 unfold sameQ;rw[samesBy_self (fun x=>by simp[sameIt,zZ]),samesBy_self (fun x=>by simp[sameJo,sameSo,zZ]),samesBy_self (fun x=>by simp[sameOd,zZ])];simp[sameSo,zZ,a1w]
end
section
structure Form(α:Type) where
 n:Nat
 cells:α->Value->List Value
 ex:α->Ex
 len:∀x s,(cells x s).length=n
def fEx:Form Ex:=⟨8,qD,id,fun _ _=>rfl⟩
def fIt:Form It:=⟨11,fun i s=>[.bool i.star,S i.t]++(qD i.x s++[S i.al]),It.x,fun _ _=>rfl⟩
def fJo:Form Jo:=⟨10,fun j s=>[S j.s.t,S j.s.al]++qD j.on s,Jo.on,fun _ _=>rfl⟩
def fOd:Form Od:=⟨9,fun o s=>qD o.x s++[.bool o.down],Od.x,fun _ _=>rfl⟩
section
variable {α:Type} {F:Form α}
def d2k(W:World)(b o:Nat)(cs:List Value):Prop:=∀i v,cs[i]?=some v->W.cell? ⟨b,o+i,none⟩=some v
theorem d2k.keep{W W':World}{b o:Nat}{cs:List Value}(h:d2k W b o cs)(hk:W'.heap[b]?=W.heap[b]?):d2k W' b o cs:=fun i v hv=>by
 rw[jV (w:=W) hk];exact h i v hv
theorem d2k.lt{W:World}{b o:Nat}{cs:List Value}(h:d2k W b o cs)(hc:0<cs.length):b<W.heap.size:=by
 have:=bB _ _ (h 0 cs[0] (aP hc));simpa using this
def d2p(F:Form α)(p:Nat->Prop)(W:World)(sv:Value)(l:List α):Prop:=
 ∃(a:Option Addr) (cap:Nat) (s:Nat->Value),sv= .slice a l.length cap/\∀j x,l[j]?=some x->∃b off,a=some ⟨b,off,none⟩/\p b/\b<W.heap.size/\d2k W b (off+j * F.n) (F.cells x (s j))/\bG p W (s j) (F.ex x).args
theorem d2p.keep{p q:Nat->Prop}{W W':World}(hs:W.heap.size<=W'.heap.size)(hm:∀b,p b->q b)(hk:∀b,p b->b<W.heap.size->W'.heap[b]?=W.heap[b]?){sv:Value}{l:List α}(h:d2p F p W sv l):d2p F q W' sv l:=by
 obtain⟨a,cap,s,e,h⟩:=h;refine⟨a,cap,s,e,fun j x hx=>?_⟩;obtain⟨b,off,ea,hb,hl,hc,hr⟩:=h j x hx;exact⟨b,off,ea,hm b hb,by omega,hc.keep (hk b hb hl),hr.keep hm hk⟩
theorem d2p.bl{p:Nat->Prop}{W W':World}{sv:Value}{l:List α}(h:d2p F p W sv l)(hb:Bl W W'):d2p F p W' sv l:=h.keep hb.size (fun _ h=>h) fun b _ hl=>hb.block b hl
theorem d2p.low{p q:Nat->Prop}{W:World}{sv:Value}{l:List α}(h:d2p F p W sv l)(hm:∀b,p b->q b):d2p F q W sv l:=h.keep (aH _) hm fun _ _ _=>rfl
theorem d2p.grown{p:Nat->Prop}{bs:Nat}{A B:World}{sv:Value}{l:List α}(h:d2p F p A sv l)(hg:A.grownBy B (some bs))(hb:¬p bs):d2p F p B sv l:=
 h.keep hg.4 (fun _ h=>h) fun b hp hl=>hg.block b hl (fun e=>by injection e with e;subst e;exact hb hp)
theorem d2p.nil(p:Nat->Prop)(W:World)(a:Option Addr)(cap:Nat):d2p F p W (.slice a 0 cap) []:=⟨a,cap,fun _=> .slice none 0 0,rfl,fun j x h=>by simp at h⟩
theorem d2p.shape{p:Nat->Prop}{W:World}{sv:Value}{l:List α}(h:d2p F p W sv l):∃a cap,sv= .slice a l.length cap/\∀j,(hj:j<l.length)->∃b off s,a=some ⟨b,off,none⟩/\p b/\b<W.heap.size/\d2k W b (off+j * F.n) (F.cells l[j] s)/\bG p W s (F.ex l[j]).args:=by
 obtain⟨a,cap,s,e,h⟩:=h;refine⟨a,cap,e,fun j hj=>?_⟩;obtain⟨b,off,ea,hb,hl,hc,hr⟩:=h j l[j] (aP hj);exact⟨b,off,s j,ea,hb,hl,hc,hr⟩
def d4w(F:Form α)(l:List (α×Value)):List Value:=l.flatMap fun q=>F.cells q.1 q.2
theorem d6a(l:List (α×Value))(x:α)(sv:Value):d4w F (l++[(x,sv)])=d4w F l++F.cells x sv:=by simp[d4w]
theorem e3c:∀(l:List (α×Value)) (j:Nat) (q:α×Value),l[j]?=some q->∀i,i<F.n->(d4w F l)[j * F.n+i]?=(F.cells q.1 q.2)[i]?
 |[],j,q,h,_,_=>by simp at h
 |r::l,0,q,h,i,hi=>by
  injection h with h;subst h;simp only[d4w,List.flatMap_cons,Nat.zero_mul,gD];rw[List.getElem?_append_left (by rw[F.len];exact hi)]
 |r::l,j+1,q,h,i,hi=>by
  have ih:=e3c l j q h i hi;simp only[d4w,List.flatMap_cons] at ih⊢;rw[List.getElem?_append_right (by rw[F.len,Nat.add_mul];omega),F.len];rw[<-ih]
  congr 1
  rw[Nat.add_mul];omega
theorem d5z{p:Nat->Prop}{W:World}{base g cap:Nat}{T:TypeId}{l:List (α×Value)}(h:W.ownsRow base T F.n (.slice (some ⟨g,0,none⟩) l.length cap) l.length (d4w F l))(hn:p g)(hg:g<W.heap.size)(hr:∀q∈l,bG p W q.2 (F.ex q.1).args):d2p F p W (.slice (some ⟨g,0,none⟩) l.length cap) (l.map (·.1)):=by
 refine⟨some ⟨g,0,none⟩,cap,fun j=>((l[j]?).map (·.2)).getD (.slice none 0 0),by simp,fun j x hx=>?_⟩;rw[iJ] at hx;obtain⟨q,hp,rfl⟩:=aT.1 hx;have hlt:=(aO.1 hp).1;have es:(fun j=>((l[j]?).map (·.2)).getD (.slice none 0 0)) j=q.2:=(by show((l[j]?).map (·.2)).getD (.slice none 0 0)=q.2;rw[hp];rfl);rw[es];refine⟨g,0,rfl,hn,hg,fun i v hv=>?_,hr q (dJ hp)⟩;have hi:i<F.n:=(by have:=(aO.1 hv).1;rw[<-F.len q.1 q.2];exact this);have hm:j * F.n+i<l.length * F.n:=by
  have:(j+1) * F.n<=l.length * F.n:=Nat.mul_le_mul_right _ hlt;rw[Nat.add_mul] at this;omega
 have hc:=h.cellAt (j * F.n+i) hm;rw[gD];exact hc.trans ((e3c l j q hp i hi).trans hv)
end
theorem readsL_all{W:World}{sv:Value}{l:List Ex}(h:gU W sv l):bG (fun _=>True) W sv l:=by
 induction h with
 |mk a cap l s h1 _ ih=>
  refine .mk a cap l s (fun j x hx=>?_) ih;obtain⟨b,off,e,h8⟩:=h1 j x hx;exact⟨b,off,e,trivial,h8⟩
theorem e3a{p:Nat->Prop}{W:World}{sv:Value}{l:List Ex}(h:d2p fEx p W sv l):bG p W sv l:=by
 obtain⟨a,cap,s,rfl,h⟩:=h;refine .mk a cap l s (fun j x hx=>?_) (fun j x hx=>?_)
 ·obtain⟨b,off,ea,hb,hl,hc,hr⟩:=h j x hx;exact⟨b,off,ea,hb,yI fun i hi=>by
   have:(qD x (s j))[i]?=some ((qD x (s j))[i]'(hi)):=aP _;rw[this];exact hc i _ this⟩
 ·obtain⟨b,off,ea,hb,hl,hc,hr⟩:=h j x hx;exact hr
abbrev QV(q:Qu)(si sj sw sg sh so:Value):Value:=
 .agg #[.bool q.distinct,si,S q.frm.t,S q.frm.al,sj,.int .i64 q.wher.k,.int .i64 q.wher.v.1,.int .i64 q.wher.v.2.1,S q.wher.v.2.2,S q.wher.t,S q.wher.n,.int .i64 q.wher.o,sw,sg,
  .int .i64 q.having.k,.int .i64 q.having.v.1,.int .i64 q.having.v.2.1,S q.having.v.2.2,S q.having.t,S q.having.n,.int .i64 q.having.o,sh,so,.int .i64 q.limit]
structure d2t(p:Nat->Prop)(W:World)(q:Qu)(si sj sw sg sh so:Value):Prop where
 items:d2p fIt p W si q.items
 joins:d2p fJo p W sj q.joins
 wher:bG p W sw q.wher.args
 group:bG p W sg q.group
 having:bG p W sh q.having.args
 orders:d2p fOd p W so q.orders
def d4m(p:Nat->Prop)(W:World)(q:Qu)(v:Value):Prop:=∃si sj sw sg sh so,v=QV q si sj sw sg sh so/\d2t p W q si sj sw sg sh so
abbrev d5o:World->Qu->Value->Prop:=d4m fun _=>True
theorem d2t.keep{p r:Nat->Prop}{W W':World}(hs:W.heap.size<=W'.heap.size)(hm:∀b,p b->r b)(hk:∀b,p b->b<W.heap.size->W'.heap[b]?=W.heap[b]?){q:Qu}{si sj sw sg sh so:Value}(h:d2t p W q si sj sw sg sh so):d2t r W' q si sj sw sg sh so:=
 ⟨h.items.keep hs hm hk,h.joins.keep hs hm hk,h.wher.keep hm hk,h.group.keep hm hk,h.having.keep hm hk,h.orders.keep hs hm hk⟩
theorem d2t.bl{p:Nat->Prop}{W W':World}{q:Qu}{si sj sw sg sh so:Value}(h:d2t p W q si sj sw sg sh so)(hb:Bl W W'):d2t p W' q si sj sw sg sh so:=h.keep hb.size (fun _ h=>h) fun b _ hl=>hb.block b hl
theorem d4m.bl{p:Nat->Prop}{W W':World}{q:Qu}{v:Value}(h:d4m p W q v)(hb:Bl W W'):d4m p W' q v:=by
 obtain⟨si,sj,sw,sg,sh,so,e,h⟩:=h;exact⟨si,sj,sw,sg,sh,so,e,h.bl hb⟩
theorem d4m.low{p r:Nat->Prop}{W:World}{q:Qu}{v:Value}(h:d4m p W q v)(hm:∀b,p b->r b):d4m r W q v:=by
 obtain⟨si,sj,sw,sg,sh,so,e,h⟩:=h;exact⟨si,sj,sw,sg,sh,so,e,h.keep (aH _) hm fun _ _ _=>rfl⟩
end
section
theorem d5e(n:Int)(w:World):
  eg 204 #[.bool true,.int .i64 n] w fun e w'=>e= .returned (.tuple #[])/\w=w':=by
 go_enter func204,ntmps204;go_wp2;go_end0;exact⟨rfl,rfl⟩
theorem d3t(n:Int)(w:World):
  eg 204 #[.bool false,.int .i64 n] w fun e w'=>e= .panicked [{v:= .iface 47 (.int .i64 n),recovered:=false}]/\w=w':=by
 go_enter func204,ntmps204;go_wp2;exact⟨rfl,rfl,rfl⟩
theorem d9i(p:Addr)(g:Value)(w:World):
  CallsD prog 200 #[.pointer (some p),g] .returning w fun e u' w'=>e= .returned (.tuple #[])/\u'= .returning/\w=w':=by
 refine callsD_of_wpS func200 rfl fun c₀ cs hu=>?_;apply wpS_seq;apply wpS_region;simp[wpOpsS,go_sem,recoverD,hu,ntmps200,Exit.thenS];refine wpS_of_wp ?_;go_wp2;cases c₀
 simp_all [bodyPostS,results,results200]
theorem d8s(p:Addr)(x n:Int)(g:FuncId)(first cap args:Array Value)(ha:first++cap=args)(w:World)(R:World->Prop)(hc:w.cell? p=some (.int .i64 x))(hz:w.frozen? p=false)
  (hg:∀(args:Array Value) (w:World),(callFunc g args).run prog w= .ok (.enter g args) w)
  (hclear:eg g args (w.setCell p (.int .i64 n)) fun e w'=>e= .returned (.tuple #[])/\R w'):
  CallsD prog 200 #[.pointer (some p),.func (.func g) first cap] (.panicking [{v:= .iface 47 (.int .i64 n),recovered:=false}]) w fun e u' w'=>
   e= .returned (.tuple #[])/\u'= .panicking [{v:= .iface 47 (.int .i64 n),recovered:=true}]/\R w':=by
 subst ha;refine callsD_of_wpS func200 rfl fun c₀ cs hu=>?_;apply wpS_seq;apply wpS_region;simp[wpOpsS,go_sem,recoverD,hu,ntmps200,Exit.thenS];refine wpS_of_wp ?_;have H:=aB hclear;clear hclear;have hta:∀w,(Instr.typeAssert (.iface 47 (.int .i64 n)) 20 47 false).run prog w= .ok (.int .i64 n) w:=fun _=>af;rw[show ∀a b x:Value,#[a,b]++(((kD 12 undef).setIfInBounds 3 x).setIfInBounds 2 x)= #[a,b,undef,undef,x,x,undef,undef,undef,undef,undef,undef,undef,undef] from fun _ _ _=>rfl];go_wp2_with fail;refine H.o.mono ?_;rintro e w' ⟨rfl,hR⟩;go_wp2_with fail;cases c₀
 simp_all [bodyPostS,results,results200]
end
section
theorem qB(n:Int)(w:World):
  eg 370 #[.bool true,.int .i64 n] w fun e w'=>e= .returned (.tuple #[])/\w=w':=by
 go_enter func370,ntmps370;go_wp2;go_end0;exact⟨rfl,rfl⟩
theorem rX(n:Int)(w:World):
  eg 370 #[.bool false,.int .i64 n] w fun e w'=>e= .panicked [{v:= .iface 47 (.int .i64 n),recovered:=false}]/\w=w':=by
 go_enter func370,ntmps370;go_wp2;exact⟨rfl,rfl,rfl⟩
theorem a6j(p:Addr)(g:Value)(w:World):
  CallsD prog 297 #[.pointer (some p),g] .returning w fun e u' w'=>e= .returned (.tuple #[])/\u'= .returning/\w=w':=by
 refine callsD_of_wpS func297 rfl fun c₀ cs hu=>?_;apply wpS_seq;apply wpS_region;simp[wpOpsS,go_sem,recoverD,hu,ntmps297,Exit.thenS];refine wpS_of_wp ?_;go_wp2;cases c₀
 simp_all [bodyPostS,results,results297]
theorem a1j(p:Addr)(x n:Int)(g:FuncId)(first cap args:Array Value)(ha:first++cap=args)(w:World)(R:World->Prop)(hc:w.cell? p=some (.int .i64 x))(hz:w.frozen? p=false)
  (hg:∀(args:Array Value) (w:World),(callFunc g args).run prog w= .ok (.enter g args) w)
  (hclear:eg g args (w.setCell p (.int .i64 n)) fun e w'=>e= .returned (.tuple #[])/\R w'):
  CallsD prog 297 #[.pointer (some p),.func (.func g) first cap] (.panicking [{v:= .iface 47 (.int .i64 n),recovered:=false}]) w fun e u' w'=>
   e= .returned (.tuple #[])/\u'= .panicking [{v:= .iface 47 (.int .i64 n),recovered:=true}]/\R w':=by
 subst ha;refine callsD_of_wpS func297 rfl fun c₀ cs hu=>?_;apply wpS_seq;apply wpS_region;simp[wpOpsS,go_sem,recoverD,hu,ntmps297,Exit.thenS];refine wpS_of_wp ?_;have H:=aB hclear;clear hclear;have hta:∀w,(Instr.typeAssert (.iface 47 (.int .i64 n)) 20 47 false).run prog w= .ok (.int .i64 n) w:=fun _=>af;rw[show ∀a b x:Value,#[a,b]++(((kD 12 undef).setIfInBounds 3 x).setIfInBounds 2 x)= #[a,b,undef,undef,x,x,undef,undef,undef,undef,undef,undef,undef,undef] from fun _ _ _=>rfl];go_wp2_with fail;refine H.o.mono ?_;rintro e w' ⟨rfl,hR⟩;go_wp2_with fail;cases c₀
 simp_all [bodyPostS,results,results297]
end
end Go.Proofs.YtohlomdapelgeaaGreatDoor
