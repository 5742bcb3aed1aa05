/- Texts MD MF MY. -/
import Derived.Test.YtkimpcmkminffaaGreatDoorNC
namespace Go.Proofs.YtkimpcmkminffaaGreatDoor
open _root_.Go.Proofs.Tryz
open Go.RowKit
open _root_.And renaming intro->bT
open _root_.Array renaming getElem?_eq_some_iff->aC,getElem?_modify->dC
open _root_.Bool renaming eq_iff_iff->kC
open _root_.Go.Lib renaming cell_of_heap->aG,hid->aB
open _root_.List renaming take_of_length_le->jS
open _root_.Nat renaming zero_add->gD
open NoPanic renaming normal->bF
open _root_.Go.World renaming setCell->dX
set_option maxRecDepth 100000
set_option maxHeartbeats 4000000
section
end
section
end
section
end
section
end
section
theorem lN{w:World}{b:Nat}{cs:Array Value}{t:TypeId}(h:w.heap[b]?=some (.cells cs t (0,0)))(o:Nat)(v:Value):(w.setCell ⟨b,o,none⟩ v).heap[b]?=some (.cells (cs.setIfInBounds o v) t (0,0)):=by
 simp[dX,dC,h]
def a4e(k:Int)(v:Int×Int×List UInt8)(t n:List UInt8)(o:Int)(sv:Value):Value:=
 if k=1 then EV 1 v [] [] 0 (.slice none 0 0) else if k=2 then EV 2 (0,0,[]) t n 0 (.slice none 0 0) else if k=3 then EV 3 (0,0,[]) [] [] o sv else if k=5 then EV 5 (0,0,[]) [] n 0 sv else EV k (0,0,[]) [] [] 0 sv
theorem rT(k v1 v2 o:Int)(v3 t n:List UInt8)(a:Option Addr)(m c:Nat)(w:World):cL 79 #[EV k (v1,v2,v3) t n o (.slice a m c)] w fun e w'=>e= .returned (a4e k (v1,v2,v3) t n o (.slice a m c))/\Bl w w':=by
 by_cases h1:k=1
 ·subst h1;have hB:Hid (a4e 1 (v1,v2,v3) t n o (.slice a m c)=EV 1 (v1,v2,v3) [] [] 0 (.slice none 0 0)):=rfl;go_enter func79,ntmps79;go_wp2;exact bodyPost_ret (v:=EV 1 (v1,v2,v3) [] [] 0 (.slice none 0 0)) (by simp[results,results79,go_sem]) rfl ⟨by rw[hB.o],(((Bl.refl w).alloc _).alloc _).alloc _⟩
 by_cases h3:k=3
 ·subst h3;have hB:Hid (a4e 3 (v1,v2,v3) t n o (.slice a m c)=EV 3 (0,0,[]) [] [] o (.slice a m c)):=rfl;go_enter func79,ntmps79;go_wp2;exact bodyPost_ret (v:=EV 3 (0,0,[]) [] [] o (.slice a m c)) (by simp[results,results79,go_sem]) rfl ⟨by rw[hB.o],(((Bl.refl w).alloc _).alloc _).alloc _⟩
 by_cases h5:k=5
 ·subst h5;have hB:Hid (a4e 5 (v1,v2,v3) t n o (.slice a m c)=EV 5 (0,0,[]) [] n 0 (.slice a m c)):=rfl;go_enter func79,ntmps79;go_wp2;exact bodyPost_ret (v:=EV 5 (0,0,[]) [] n 0 (.slice a m c)) (by simp[results,results79,go_sem]) rfl ⟨by rw[hB.o],(((Bl.refl w).alloc _).alloc _).alloc _⟩
 by_cases h2:k=2
 ·subst h2;have hB:Hid (a4e 2 (v1,v2,v3) t n o (.slice a m c)=EV 2 (0,0,[]) t n 0 (.slice none 0 0)):=rfl;have hx0:=uA w (.cells #[.int .i64 2,.int .i64 v1,.int .i64 v2,S v3,S t,S n,.int .i64 o,.slice a m c] 47) (.cells #[.int .i64 0,.int .i64 0,.int .i64 0,S [],S [],S [],.int .i64 0,.slice none 0 0] 47) (.cells #[.int .i64 2,.int .i64 0,.int .i64 0,S [],S [],S [],.int .i64 0,.slice a m c] 47);have hr0:=oZ w (.cells #[.int .i64 2,.int .i64 v1,.int .i64 v2,S v3,S t,S n,.int .i64 o,.slice a m c] 47) (.cells #[.int .i64 0,.int .i64 0,.int .i64 0,S [],S [],S [],.int .i64 0,.slice none 0 0] 47) (.cells #[.int .i64 2,.int .i64 0,.int .i64 0,S [],S [],S [],.int .i64 0,.slice a m c] 47);have hu0:=aV ((w.alloc (.cells #[.int .i64 2,.int .i64 v1,.int .i64 v2,S v3,S t,S n,.int .i64 o,.slice a m c] 47)).alloc (.cells #[.int .i64 0,.int .i64 0,.int .i64 0,S [],S [],S [],.int .i64 0,.slice none 0 0] 47)) (.cells #[.int .i64 2,.int .i64 0,.int .i64 0,S [],S [],S [],.int .i64 0,.slice a m c] 47) (k:=w.heap.size+1+1) aa;have HH:=aB (bT hx0 (bT hr0 (bT hu0 ((((Bl.refl w).alloc (.cells #[.int .i64 2,.int .i64 v1,.int .i64 v2,S v3,S t,S n,.int .i64 o,.slice a m c] 47)).alloc (.cells #[.int .i64 0,.int .i64 0,.int .i64 0,S [],S [],S [],.int .i64 0,.slice none 0 0] 47)).alloc (.cells #[.int .i64 2,.int .i64 0,.int .i64 0,S [],S [],S [],.int .i64 0,.slice a m c] 47)))));clear hx0 hr0 hu0 h1 h3 h5;go_enter func79,ntmps79;go_wp2_with fail;refine wp_region_noPanic (bM (fun B=>B.heap[w.heap.size]?=some (.cells #[.int .i64 2,.int .i64 v1,.int .i64 v2,S v3,S t,S n,.int .i64 o,.slice a m c] 47 (0,0))) ((.take 0 (.take 1 (.take 2 (.take 3 (.take 4 (.one 5 (.take 6 (.one 7 (.take 8 (.one 9 .done))))))))))) ae ae ae (fun _ _ _ _ _ h=>h) (HH.o.1) ?_);intro wd HWD hY;iterate 5 (refine cT ?_)
  have HR1:=aB ((HWD.o.block _ aa).trans HH.o.2.1);have HU1:=aB ((HWD.o.block _ aa).trans HH.o.2.2.1);have HBW:=aB (HH.o.2.2.2.call HWD.o);obtain⟨⟨u0,u1,u2,u3,u4,u5,u6,u7⟩,g0,g1,g2,g3,g4,g5,g6,g7⟩:=eight HU1.o;refine aL rfl (fun K hK=>?_);go_simp;refine hK.o _ _ (((aM _ ⟨w.heap.size+1+1,4,none⟩ _ _ cG).trans hY)) ?_;clear hY hK K;intro hY;refine cT ?_;clear u0 u1 u2 u3 u4 u5 u6 u7 g0 g1 g2 g3 g4 g5 g6 g7;have HU2:Hid ((wd.setCell ⟨w.heap.size+1+1,4,none⟩ (S t)).heap[w.heap.size+1+1]?=some (.cells #[.int .i64 2,.int .i64 0,.int .i64 0,S [],S t,S [],.int .i64 0,.slice a m c] 47 (0,0))):=lN HU1.o 4 _;obtain⟨⟨u0,u1,u2,u3,u4,u5,u6,u7⟩,g0,g1,g2,g3,g4,g5,g6,g7⟩:=eight HU2.o;refine aL rfl (fun K hK=>?_);go_simp;refine hK.o _ _ (((aM _ ⟨w.heap.size+1+1,5,none⟩ _ _ cG).trans hY)) ?_;clear hY hK K;intro hY;refine cT ?_;clear u0 u1 u2 u3 u4 u5 u6 u7 g0 g1 g2 g3 g4 g5 g6 g7;have HU3:Hid (((wd.setCell ⟨w.heap.size+1+1,4,none⟩ (S t)).setCell ⟨w.heap.size+1+1,5,none⟩ (S n)).heap[w.heap.size+1+1]?=some (.cells #[.int .i64 2,.int .i64 0,.int .i64 0,S [],S t,S n,.int .i64 0,.slice a m c] 47 (0,0))):=lN HU2.o 5 _;obtain⟨⟨u0,u1,u2,u3,u4,u5,u6,u7⟩,g0,g1,g2,g3,g4,g5,g6,g7⟩:=eight HU3.o;refine aL rfl (fun K hK=>?_);go_simp;refine hK.o _ _ (((aM _ ⟨w.heap.size+1+1,7,none⟩ _ _ cG).trans hY)) ?_;clear hY hK K;intro hY;refine fO (bF ?_);clear u0 u1 u2 u3 u4 u5 u6 u7 g0 g1 g2 g3 g4 g5 g6 g7;have HU4:Hid ((((wd.setCell ⟨w.heap.size+1+1,4,none⟩ (S t)).setCell ⟨w.heap.size+1+1,5,none⟩ (S n)).setCell ⟨w.heap.size+1+1,7,none⟩ (.slice none 0 0)).heap[w.heap.size+1+1]?=some (.cells #[.int .i64 2,.int .i64 0,.int .i64 0,S [],S t,S n,.int .i64 0,.slice none 0 0] 47 (0,0))):=lN HU3.o 7 _;have HR4:=aB ((aM _ ⟨w.heap.size+1+1,7,none⟩ (.slice none 0 0) (w.heap.size+1) cE).trans ((aM _ ⟨w.heap.size+1+1,5,none⟩ (S n) (w.heap.size+1) cE).trans ((aM _ ⟨w.heap.size+1+1,4,none⟩ (S t) (w.heap.size+1) cE).trans HR1.o)));have HB4:=aB (((HBW.o.set (p:=⟨w.heap.size+1+1,4,none⟩) cF (S t)).set (p:=⟨w.heap.size+1+1,5,none⟩) cF (S n)).set (p:=⟨w.heap.size+1+1,7,none⟩) cF (.slice none 0 0));clear hY;generalize ((wd.setCell ⟨w.heap.size+1+1,4,none⟩ (S t)).setCell ⟨w.heap.size+1+1,5,none⟩ (S n)).setCell ⟨w.heap.size+1+1,7,none⟩ (.slice none 0 0)=w9 at *;obtain⟨⟨u0,u1,u2,u3,u4,u5,u6,u7⟩,-⟩:=eight HU4.o;obtain⟨⟨r0,r1,r2,r3,r4,r5,r6,r7⟩,f0,f1,f2,f3,f4,f5,f6,f7⟩:=eight HR4.o;go_wp2;obtain⟨⟨q0,q1,q2,q3,q4,q5,q6,q7⟩,-⟩:=eight (bO HR4.o (.int .i64 2) (.int .i64 0) (.int .i64 0) (S []) (S t) (S n) (.int .i64 0) (.slice none 0 0));exact bodyPost_ret (v:=EV 2 (0,0,[]) t n 0 (.slice none 0 0)) (by simp[results,results79,go_sem,q0,q1,q2,q3,q4,q5,q6,q7]) rfl ⟨by rw[hB.o],qY HB4.o aE _ _ _ _ _ _ _ _⟩
 have hB:Hid (a4e k (v1,v2,v3) t n o (.slice a m c)=EV k (0,0,[]) [] [] 0 (.slice a m c)):=by
  show _=_;unfold a4e;rw[if_neg h1,if_neg h2,if_neg h3,if_neg h5]
 have b1:(k==1)=false:=az;have b2:(k==2)=false:=bc;have b3:(k==3)=false:=bh;have b5:(k==5)=false:=(by simpa using h5);clear h1 h2 h3 h5;go_enter func79,ntmps79;go_wp2;exact bodyPost_ret (v:=EV k (0,0,[]) [] [] 0 (.slice a m c)) (by simp[results,results79,go_sem]) rfl ⟨by rw[hB.o],(((Bl.refl w).alloc _).alloc _).alloc _⟩
end
section
theorem kU(w:World):cL 83 #[] w fun e w'=>e= .returned (.slice (some ⟨w.heap.size,0,none⟩) 4 4)/\w'=w.alloc (.cells #[S gX,S c1m,S c1n,S c1o] 9):=by
 go_enter func83,ntmps83;go_wp2;go_ret;exact⟨rfl,rfl⟩
def c5u:List ByteArray:=gP.map fun x=>⟨x.toArray⟩
theorem a6o(x:List UInt8):Lib.containsS (c5u.take 4) ⟨x.toArray⟩=gP.contains x:=by
 have e:c5u.take 4=c5u:=jS (Nat.le_of_eq rfl);rw[kC,e,Lib.containsS_iff];unfold c5u;simp
theorem kN{W:World}{b:Nat}{t:TypeId}(h:W.heap[b]?=some (.cells #[S gX,S c1m,S c1n,S c1o] t (0,0)))(x:List UInt8):cL 82 #[.slice (some ⟨b,0,none⟩) 4 4,S x] W fun e w'=>e= .returned (.bool (gP.contains x))/\w'=W:=by
 have:=Tryz.slices_Contains_string b 0 4 4 c5u ⟨x.toArray⟩ W (Nat.le_of_eq rfl) aE (fun j hj=>by
  rw[aG h,gD]
  match j,hj with
  |0,_=>rfl
  |1,_=>rfl
  |2,_=>rfl
  |3,_=>rfl
  |j+4,hj=>exact absurd hj (by show ¬j+4<4;omega))
 rw[a6o] at this;exact this
end
section
section
variable {P:Program} {ops:Array Oper} {Q:Exit->Act->World->Prop} {S:World->Prop}
end
abbrev zC:Array Value:= #[.int .i64 0,.int .i64 0,.int .i64 0,S [],S [],S [],.int .i64 0,.slice none 0 0]
end
section
structure FrE(W A:World)(bs k:Nat):Prop where
 grown:W.grownBy A (some bs)
 s:A.heap[W.heap.size]?=some (.cells #[.pointer (some ⟨bs,0,none⟩)] 146 (0,0))
 x:A.heap[W.heap.size+1]?=some (.cells zC 47 (0,0))
 e:A.heap[W.heap.size+2]?=some (.cells #[.int .i64 0] 37 (0,0))
 q:A.heap[W.heap.size+3]?=some (.cells #[.int .i64 (k:Int)] 3 (0,0))
theorem FrE.size{W A:World}{bs k:Nat}(h:FrE W A bs k):W.heap.size+3<A.heap.size:=(aC.1 h.q).1
theorem FrE.next{W A B:World}{bs k:Nat}(h:FrE W A bs k)(hb:bs<W.heap.size)(hg:A.grownBy B (some bs)):FrE W B bs k:=
 have hz:=h.size
 ⟨dA h.grown hg,(hg.block _ aE (fun e=>by injection e with e;omega)).trans h.s,(hg.block _ aE (fun e=>by injection e with e;omega)).trans h.x,(hg.block _ aE (fun e=>by injection e with e;omega)).trans h.e,(hg.block _ aE (fun e=>by injection e with e;omega)).trans h.q⟩
theorem FrE.bl{W A B:World}{bs k:Nat}(h:FrE W A bs k)(hb:bs<W.heap.size)(hg:Bl A B):FrE W B bs k:=h.next hb (gI hg _)
theorem FrE.start(W:World)(bs k:Nat):FrE W ((((W.alloc (.cells #[.pointer (some ⟨bs,0,none⟩)] 146)).alloc (.cells zC 47)).alloc (.cells #[.int .i64 0] 37)).alloc (.cells #[.int .i64 (k:Int)] 3)) bs k:=
 ⟨gI ((((Bl.refl W).alloc _).alloc _).alloc _ |>.alloc _) _,(aW _ _ (by simp<;>omega)).trans (uA _ _ _ _),(aW _ _ (by simp<;>omega)).trans (oZ _ _ _ _),(aW _ _ aa).trans (aV _ _ aa),aV _ _ aa⟩
end
section
end
end Go.Proofs.YtkimpcmkminffaaGreatDoor
