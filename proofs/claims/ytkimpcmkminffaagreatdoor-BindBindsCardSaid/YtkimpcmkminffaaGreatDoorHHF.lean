/- Texts beside the shared ones. -/
import Derived.Test.YtkimpcmkminffaaGreatDoorHX0
import Derived.Test.YtkimpcmkminffaaGreatDoorHHE
import Derived.Test.YtkimpcmkminffaaGreatDoorHHC
import Derived.Test.YtkimpcmkminffaaGreatDoorHHR
import Derived.Sort.CutIn
namespace Go.Proofs.YtkimpcmkminffaaGreatDoor
open Go.RowKit Go.Shelf
open _root_.Go.Act renaming put->aK
open _root_.And renaming intro->bT
open _root_.Array renaming getElem?_eq_some_iff->aC,replicate_succ->eX,replicate_zero->eU
open _root_.Go.RowKit.Below renaming refl->bS
open _root_.Go.Lib renaming frozen_of_heap->aJ,hid->aB
open _root_.List renaming append_toArray->fD,cons_append->bE,getElem?_eq_getElem->aP,length_append->bD,length_cons->aX,length_nil->bL,length_singleton->dB,nil_append->cB,push_toArray->gH,setIfInBounds_toArray->aA,set_cons_succ->aF,set_cons_zero->aD,size_toArray->gG
open _root_.Nat renaming le_refl->aH
open NoPanic renaming normal->bF
open _root_.Go.Oper renaming semAt_some->nC
open _root_.Option renaming getD_some->oQ
open _root_.Go.World renaming cell?_of_block->jV
set_option maxRecDepth 100000
set_option maxHeartbeats 16000000
section
attribute [local go_sem] nC
structure BbF(xc:List Value)(many:Int)(W A:World):Prop where
 x:A.heap[W.heap.size]?=some (.cells xc.toArray 47 (0,0))
 m:A.heap[W.heap.size+1]?=some (.cells #[.int .i64 many] 3 (0,0))
 r:A.heap[W.heap.size+2]?=some (.cells #[.bool false] 4 (0,0))
 bl:Bl W A
theorem BbF.call{xc:List Value}{many:Int}{W A B:World}(h:BbF xc many W A)(hb:Bl A B):BbF xc many W B:=⟨keep_b h.x hb,keep_b h.m hb,keep_b h.r hb,h.bl.call hb⟩
theorem BbF.start(xc:List Value)(many:Int)(W:World):BbF xc many W (((W.alloc (.cells xc.toArray 47)).alloc (.cells #[.int .i64 many] 3)).alloc (.cells #[.bool false] 4)):=
 ⟨keep_b (keep_b (aN W _) ((Bl.refl _).alloc _)) ((Bl.refl _).alloc _),keep_b (aV _ _ (by simp)) ((Bl.refl _).alloc _),aV _ _ (by simp),(((Bl.refl W).alloc _).alloc _).alloc _⟩
theorem BbF.size{xc:List Value}{many:Int}{W A:World}(h:BbF xc many W A):W.heap.size+3<=A.heap.size:=by have:=(aC.1 h.r).1;omega
theorem bbinds_bad(q:Nat)(x:Ex)(many:Int)(W:World)(v:Value)(hv:eO W x v)(fa:Option Addr)(fc:Nat)(z:Nat)(HPT:Hid (∀W',Bl W W'->Calls Tryz.prog 11 #[v,.int .i64 40] W' fun e w'=>e= .returned (.int .i64 (z:Int))/\Bl W' w'))(HWO:Hid (∀W',Bl W W'->Calls Tryz.prog 7 #[] W' fun e w'=>e= .returned (.bool true)/\Bl W' w'))
  (h:170<q\/40<z):Calls Tryz.prog 4 #[.slice fa q fc,v,.int .i64 many] W (Yes W):=by
 obtain⟨sl,rfl,hR⟩:=hv;obtain⟨a,cap,rfl,-⟩:=hR.shape;clear hR;obtain⟨k,⟨v1,v2,v3⟩,t,n,o,args⟩:=x;simp only[Ex.k,Ex.t,Ex.v,Ex.o,Ex.n,Ex.args] at *;generalize args.length=m at *;have HF0:=aB (BbF.start (exC8 k v1 v2 v3 t n o (.slice a m cap)) many W);by_cases hq:170<q
 ·have g1:(170:Int)<(q:Int):=by omega
  clear h hq HPT;go_enter Tryz.func4,Tryz.ntmps4;go_wp2_with fail;refine(HWO.o _ (HF0.o).bl).mono ?_;rintro e w9 ⟨rfl,hb9⟩;have hE9:=keep_b (HF0.o).r hb9;have c0:=cK hE9;have z0:=aJ hE9 0;have HB9:=aB ((HF0.o).bl.call hb9);go_wp2;have q0:=cK (x:= .bool true) (lN hE9 0 (.bool true));exact bodyPost_ret (v:= .bool true) (by simp[results,Tryz.results4,go_sem,q0]) rfl ⟨rfl,HB9.o.set (p:=⟨W.heap.size+2,0,none⟩) (by show W.heap.size<=W.heap.size+2;omega) _⟩
 ·have g1:¬(170:Int)<(q:Int):=by omega
  have g2:(40:Int)<(z:Int):=(by omega);clear h hq;obtain⟨x0,x1,x2,x3,x4,x5,x6,x7⟩:=cells_x HF0.o.x;go_enter Tryz.func4,Tryz.ntmps4;go_wp2_with fail;refine(HPT.o _ HF0.o.bl).mono ?_;rintro e w1 ⟨rfl,hb1⟩;have HF1:=aB (HF0.o.call hb1);clear hb1 x0 x1 x2 x3 x4 x5 x6 x7;go_wp2_with fail;refine(HWO.o _ (HF1.o).bl).mono ?_;rintro e w9 ⟨rfl,hb9⟩;have hE9:=keep_b (HF1.o).r hb9;have c0:=cK hE9;have z0:=aJ hE9 0;have HB9:=aB ((HF1.o).bl.call hb9);go_wp2;have q0:=cK (x:= .bool true) (lN hE9 0 (.bool true));exact bodyPost_ret (v:= .bool true) (by simp[results,Tryz.results4,go_sem,q0]) rfl ⟨rfl,HB9.o.set (p:=⟨W.heap.size+2,0,none⟩) (by show W.heap.size<=W.heap.size+2;omega) _⟩
structure BbT(M:World)(bt bn:Nat)(Ds:List Nat)(t n:Int)(A:World):Prop where
 bl:Below M.heap.size M A
 t:Boxed A bt 3 (.int .i64 t)
 n:Boxed A bn 3 (.int .i64 n)
 d:∀D∈Ds,A.heap[D]?=some (.deferred (some []))
theorem BbT.kept{M:World}{bt bn:Nat}{Ds:List Nat}{t n:Int}{A B:World}{B0:Nat}(h:BbT M bt bn Ds t n A)(hM:M.heap.size<=B0)(hD:∀D∈Ds,D<B0){row:Option Nat}(hg:A.grownBy B row)(hr:∀r,row=some r->B0<=r/\∃o:Obj,A.heap[r]?=some o/\o.isCells=false):BbT M bt bn Ds t n B:=
 ⟨h.bl.grown hg h.bl.size (fun r e=>by have:=(hr r e).1;omega),h.t.kept hg (row_not h.t fun r e=>(hr r e).2),h.n.kept hg (row_not h.n fun r e=>(hr r e).2),fun D hd=>by
  have h1:=h.d D hd;rw[hg.block D (aC.1 h1).1 (fun e=>by have:=(hr D e.symm).1;have:=hD D hd;omega)];exact h1⟩
theorem BbT.setN{M:World}{bt bn:Nat}{Ds:List Nat}{t n:Int}{A:World}(h:BbT M bt bn Ds t n A)(hM:M.heap.size<=bn)(hne:bt≠bn)(m:Int):BbT M bt bn Ds t m (A.setCell ⟨bn,0,none⟩ (.int .i64 m)):=
 ⟨h.bl.setCell (p:=⟨bn,0,none⟩) hM _,(aM A ⟨bn,0,none⟩ _ bt hne).trans h.t,h.n.set _,fun D hd=>by
  have h1:=h.d D hd;refine(aM A ⟨bn,0,none⟩ _ D (fun e=>?_)).trans h1;have e:D=bn:=e;rw[e,show A.heap[bn]?=some (.cells #[.int .i64 n] 3 (0,0)) from h.n] at h1;cases h1⟩
def ItB(M:World)(bt bn:Nat)(Ds:List Nat)(many t:Int)(l pre:List Int)(A:World):Prop:=BbT M bt bn Ds t (pre.length:Int) A/\pre=l.take pre.length/\(t=1\/pre.length=0\/(pre.length:Int)<many)
def IxB(M:World)(bt bn:Nat)(Ds:List Nat)(many t:Int)(l:List Int)(c:Code)(pre:List Int)(A:World):Prop:=
 (c= .exit 2/\t=0/\BbT M bt bn Ds t (pre.length:Int) A/\many<=pre.length/\1<=pre.length/\(pre.length=1\/(pre.length:Int)-1<many))\/(c= .ret/\pre≠l.take pre.length)
theorem takeI_ok{l pre:List Int}{x:Int}(h:pre=l.take pre.length)(hl:pre.length<l.length)(hx:x=l[pre.length]):pre++[x]=l.take (pre++[x]).length:=by
 rw[bD,dB,takeD_snoc l hl,<-h,hx]
theorem takeI_no{l pre:List Int}{x:Int}(hl:pre.length<l.length)(hx:x≠l[pre.length]):pre++[x]≠l.take (pre++[x]).length:=by
 intro e;rw[bD,dB,takeD_snoc l hl] at e;have:=List.append_inj' e rfl;simp at this;exact hx this.2
theorem preI_take{l pre:List Int}(h:pre<+:l):pre=l.take pre.length:=by
 obtain⟨r,rfl⟩:=h;simp
theorem Ints.form{n:Nat}{W:World}{sv:Value}{zs:List Int}:Ints n W sv zs->∃a c,sv= .slice a zs.length c
 | .inl ⟨e,h⟩=>⟨none,0,by rw[e,h];rfl⟩
 | .inr ⟨_,_,_,e,_⟩=>⟨_,_,e⟩
theorem bb_leave{tm:Array Value}{W Wf:World}{br D D':Nat}(h2:tm[6]?=some (.pointer (some ⟨br,0,none⟩)))(hc:Wf.cell? ⟨br,0,none⟩=some (.bool true))(hD:Wf.heap[D]?=some (.deferred (some [])))(hD':Wf.heap[D']?=some (.deferred (some [])))
  (hne:D≠D') (hw:W.heap.size<=D) (hw':W.heap.size<=D') (hB:Bl W Wf):
  LeavesInM Fence.wide 6 Tryz.prog Tryz.f4 tm (Yes W) [{target:= .collected D',args:= #[]},{target:= .collected D,args:= #[]}] .returning Wf:=by
 have ndef:∀E,Wf.heap[E]?=some (.deferred (some []))->br≠E:=by
  rintro E hE rfl;simp[World.cell?,hE] at hc
 have pc:∀{A:World} {E:Nat},A.cell? ⟨br,0,none⟩=some (.bool true)->br≠E->(A.putObj E (.deferred none)).cell? ⟨br,0,none⟩=some (.bool true):=fun{A E} h hn=>by
  rw[jV (w:=A) (World.putObj_heap_other (by simpa using hn))];exact h
 refine⟨by simp,.inl ⟨_,_,rfl,run_takeDeferred hD',?_⟩⟩;have hD2:(Wf.putObj D' (.deferred none)).heap[D]?=some (.deferred (some [])):=(World.putObj_heap_other (by omega)).trans hD;refine⟨by simp,.inl ⟨_,_,rfl,run_takeDeferred hD2,?_⟩⟩;have hc2:=pc (pc hc (ndef D' hD')) (ndef D hD);refine⟨.bool true,?_,rfl,(hB.trans (belowK_b (w:=W) (aH _) _ _ _ _ hw' hD' rfl rfl)).trans (belowK_b (w:=W) (aH _) _ _ _ _ hw hD2 rfl rfl)⟩;simp[results,Tryz.results4,go_sem,h2,hc2]
structure BbG(xc:List Value)(many:Int)(boxL boxS:Nat)(s1 s2:Value)(l:List Int)(W A:World):Prop where
 f:BbF xc many W A
 lb:Boxed A boxL 53 s1
 sb:Boxed A boxS 53 s2
 i1:Ints A.heap.size A s1 l
 i2:Ints A.heap.size A s2 l
theorem BbG.call{xc:List Value}{many:Int}{boxL boxS:Nat}{s1 s2:Value}{l:List Int}{W A B:World}(h:BbG xc many boxL boxS s1 s2 l W A)(hb:Bl A B):BbG xc many boxL boxS s1 s2 l W B:=
 ⟨h.f.call hb,box_bl h.lb hb,box_bl h.sb hb,h.i1.more hb,h.i2.more hb⟩
theorem bbinds_good(q:Nat)(hq:q<=170)(x:Ex)(many:Int)(hm0: -9223372036854775808<=many)(hm1:many<=9223372036854775807)(W:World)(v:Value)(hv:eO W x v)(fa:Option Addr)(fc:Nat)(z:Nat)(hz:z<=40)(R:Bd×Int)(hp:partsD R.1<=90)
  (HPT:Hid (∀W',Bl W W'->Calls Tryz.prog 11 #[v,.int .i64 40] W' fun e w'=>e= .returned (.int .i64 (z:Int))/\Bl W' w')) (HWO:Hid (∀W',Bl W W'->Calls Tryz.prog 7 #[] W' fun e w'=>e= .returned (.bool true)/\Bl W' w'))
  (HBD:Hid (∀W',Bl W W'->Calls Tryz.prog 12 #[.slice fa q fc,v] W' (BindP R W'))) (HWD0:Hid (∀W',Bl W W'->Calls Tryz.prog 13 #[.slice fa q fc,v] W' (WbP R W'))):Calls Tryz.prog 4 #[.slice fa q fc,v,.int .i64 many] W (Yes W):=by
 have HWP:Hid (∀(A:World) (u:Value),ReadsD A R.1 u->Calls Tryz.prog 14 #[u] A fun e w'=>(∃sv,e= .returned sv/\Ints w'.heap.size w' sv (placesD R.1))/\Bl A w'):=fun A u hu=>wPlaces_any 1000 R.1 (by omega) (by omega) A u hu;have HBP:Hid (∀(A:World) (u:Value),ReadsD A R.1 u->Calls Tryz.prog 15 #[u] A fun e w'=>(∃sv,e= .returned (.func (.func 40) #[] #[.pointer (some ⟨A.heap.size+1,0,none⟩)])/\Boxed w' (A.heap.size+1) 53 sv/\Ints w'.heap.size w' sv (placesD R.1))/\Bl A w'):=fun A u hu=>bPlaces_any R.1 hp A u hu;have HSM:Hid (∀(A:World) (u u':Value),ReadsD A R.1 u->ReadsD A R.1 u'->Calls Tryz.prog 16 #[u,u'] A fun e w'=>e= .returned (.bool true)/\Bl A w'):=fun A u u' hu hu'=>by
  have h:=wSame_any 1000 R.1 R.1 (by omega) (by omega) A u u' hu hu';rw[sameD_self] at h;exact h
 have HS1:Hid (∀(A:World) (u:Value),ReadsD A R.1 u->Calls Tryz.prog 17 #[u] A fun e w'=>e= .returned (.bool (sumsD R.1))/\Bl A w'):=fun A u hu=>bSums_any 1000 R.1 (by omega) (by omega) A u hu;have HS2:Hid (∀(A:World) (u:Value),ReadsD A R.1 u->Calls Tryz.prog 18 #[u] A fun e w'=>e= .returned (.bool (sumsD R.1))/\Bl A w'):=fun A u hu=>wSums_any 1000 R.1 (by omega) (by omega) A u hu;have hll:=placesD_len R.1;obtain⟨sl,rfl,hR⟩:=hv;obtain⟨a,cap,rfl,-⟩:=hR.shape;clear hR;obtain⟨k,⟨v1,v2,v3⟩,t,n,o,args⟩:=x;obtain⟨b,c⟩:=R;simp only[Ex.k,Ex.t,Ex.v,Ex.o,Ex.n,Ex.args] at *;generalize args.length=m at *;generalize placesD b=l at *;generalize sumsD b=sm at *;have hl90:l.length<=90:=(by omega);have HL90:=aB hl90;clear hll hl90 hp;have g1:¬(170:Int)<(q:Int):=(by omega);have g2:¬(40:Int)<(z:Int):=(by omega);have HF0:=aB (BbF.start (exC8 k v1 v2 v3 t n o (.slice a m cap)) many W);obtain⟨x0,x1,x2,x3,x4,x5,x6,x7⟩:=cells_x HF0.o.x;refine(callsIn_wide (n:=6)).1 ?_;refine callsIn_of_wp_marks Tryz.func4 rfl trivial ?_ rfl;simp only[Tryz.ntmps4,gG,aX,bL,Nat.reduceAdd,Nat.reduceSub,eX,eU,gH,fD,cB,bE]
 gi_wp2_with fail
 refine⟨trivial,?_⟩;refine(callsIn_wide.2 (HPT.o _ HF0.o.bl)).mono ?_;rintro e w1 ⟨rfl,hb1⟩;have HF1:=aB (HF0.o.call hb1);clear hb1 x0 x1 x2 x3 x4 x5 x6 x7;obtain⟨x0,x1,x2,x3,x4,x5,x6,x7⟩:=cells_x HF1.o.x
 gi_wp2_with fail
 refine⟨trivial,?_⟩;refine(callsIn_wide.2 (HBD.o _ HF1.o.bl)).mono ?_;rintro e w2 ⟨⟨vb,rfl,hrb⟩,hb2⟩;obtain⟨bk,bt,⟨b1,b2,b3⟩,bp,bo,bn,ba⟩:=b;obtain⟨bs,rfl,hrb⟩:=hrb;simp only[Bd.k,Bd.t,Bd.v,Bd.p,Bd.o,Bd.n,Bd.args] at *;obtain⟨ba1,bc1,rfl,-⟩:=id hrb.shape;have hb2':Bl w1 (w2.alloc (.cells (cellsB bk bt b1 b2 b3 bp bo bn (.slice ba1 ba.length bc1)) 30)):=hb2.alloc _;have HF2:=aB (HF1.o.call hb2');have HX2:=aB (aN w2 (.cells (cellsB bk bt b1 b2 b3 bp bo bn (.slice ba1 ba.length bc1)) 30));have HRB2:=aB (show ReadsD (w2.alloc (.cells (cellsB bk bt b1 b2 b3 bp bo bn (.slice ba1 ba.length bc1)) 30)) (.mk bk bt (b1,b2,b3) bp bo bn ba) (BdV bk bt (b1,b2,b3) bp bo bn (.slice ba1 ba.length bc1)) from⟨_,rfl,(hrb.keep (r:=fun _=>True) (aH _) (fun _ _=>trivial) fun _ _ _=>rfl).bl ((Bl.refl _).alloc _)⟩);clear hb2 hb2' hrb x0 x1 x2 x3 x4 x5 x6 x7;obtain⟨n2,hn2⟩:∃n2,w2.heap.size=n2:=⟨_,rfl⟩
 gi_upto_region 4 with fail
 obtain⟨u2,hu⟩:∃u,w2.alloc (.cells (cellsB bk bt b1 b2 b3 bp bo bn (.slice ba1 ba.length bc1)) 30)=u:=⟨_,rfl⟩
 change Code.wpIn _ _ _ _ _ _ (w2.alloc (.cells (cellsB bk bt b1 b2 b3 bp bo bn (.slice ba1 ba.length bc1)) 30));rw[hu] at HF2 HX2 HRB2⊢
 try rw[hn2] at HX2
 try rw[hn2]
 clear hu hn2;obtain⟨x0,x1,x2,x3,x4,x5,x6,x7⟩:=cells_x HF2.o.x
 gi_wp2_with fail
 refine⟨trivial,?_⟩;refine(callsIn_wide.2 (HWD0.o _ HF2.o.bl)).mono ?_;rintro e w3 ⟨⟨vb2,rfl,hrb⟩,hb3⟩;obtain⟨bs2,rfl,hrb⟩:=hrb;simp only[Bd.args] at hrb;simp only[Bd.k,Bd.t,Bd.v,Bd.p,Bd.o,Bd.n];obtain⟨ba2,bc2,rfl,-⟩:=id hrb.shape;have hb3':Bl u2 (w3.alloc (.cells (cellsB bk bt b1 b2 b3 bp bo bn (.slice ba2 ba.length bc2)) 30)):=hb3.alloc _;have HF3:=aB (HF2.o.call hb3');have HX3:=aB (keep_b HX2.o hb3');have HY3:=aB (aN w3 (.cells (cellsB bk bt b1 b2 b3 bp bo bn (.slice ba2 ba.length bc2)) 30));have HRB3:=aB (HRB2.o.bl hb3');have HRC3:=aB (show ReadsD (w3.alloc (.cells (cellsB bk bt b1 b2 b3 bp bo bn (.slice ba2 ba.length bc2)) 30)) (.mk bk bt (b1,b2,b3) bp bo bn ba) (BdV bk bt (b1,b2,b3) bp bo bn (.slice ba2 ba.length bc2)) from⟨_,rfl,(hrb.keep (r:=fun _=>True) (aH _) (fun _ _=>trivial) fun _ _ _=>rfl).bl ((Bl.refl _).alloc _)⟩);clear hb3 hb3' hrb x0 x1 x2 x3 x4 x5 x6 x7 HF2 HX2 HRB2;obtain⟨n3,hn3⟩:∃n3,w3.heap.size=n3:=⟨_,rfl⟩
 gi_upto_region 5 with fail
 obtain⟨u3,hu⟩:∃u,w3.alloc (.cells (cellsB bk bt b1 b2 b3 bp bo bn (.slice ba2 ba.length bc2)) 30)=u:=⟨_,rfl⟩
 change Code.wpIn _ _ _ _ _ _ (w3.alloc (.cells (cellsB bk bt b1 b2 b3 bp bo bn (.slice ba2 ba.length bc2)) 30));rw[hu] at HF3 HX3 HY3 HRB3 HRC3⊢
 try rw[hn3] at HY3
 try rw[hn3]
 clear hu hn3;obtain⟨e0,e1,e2,e3,e4,e5,e6,e7,e8⟩:=nine HY3.o
 gi_wp2_with fail
 refine⟨trivial,?_⟩;refine(callsIn_wide.2 (HWP.o _ _ HRC3.o)).mono ?_;rintro e w4 ⟨⟨sx,rfl,hi1⟩,hb4⟩;obtain⟨la,lc,rfl⟩:=hi1.form;have hb4':Bl u3 (w4.alloc (.cells #[.slice la l.length lc] 53)):=hb4.alloc _;have HF4:=aB (HF3.o.call hb4');have HX4:=aB (keep_b HX3.o hb4');have HY4:=aB (keep_b HY3.o hb4');have HRB4:=aB (HRB3.o.bl hb4');have HRC4:=aB (HRC3.o.bl hb4');have HL4:=aB (show Boxed (w4.alloc (.cells #[.slice la l.length lc] 53)) w4.heap.size 53 (.slice la l.length lc) from Boxed.new w4 53 (.slice la l.length lc));have HI4:=aB (hi1.more ((Bl.refl w4).alloc (.cells #[.slice la l.length lc] 53)));clear hb4 hb4' hi1 e0 e1 e2 e3 e4 e5 e6 e7 e8 HF3 HX3 HY3 HRB3 HRC3;obtain⟨n4,hn4⟩:∃n4,w4.heap.size=n4:=⟨_,rfl⟩
 gi_upto_region 6 with fail
 obtain⟨u4,hu⟩:∃u,w4.alloc (.cells #[.slice la l.length lc] 53)=u:=⟨_,rfl⟩
 change Code.wpIn _ _ _ _ _ _ (w4.alloc (.cells #[.slice la l.length lc] 53));rw[hu] at HF4 HX4 HY4 HRB4 HRC4 HL4 HI4⊢
 try rw[hn4] at HL4
 try rw[hn4]
 clear hu hn4;obtain⟨e0,e1,e2,e3,e4,e5,e6,e7,e8⟩:=nine HX4.o
 gi_wp2_with fail
 refine⟨trivial,?_⟩;refine(callsIn_wide.2 (HBP.o _ _ HRB4.o)).mono ?_;rintro e w5 ⟨⟨sy,rfl,hs2,hi2⟩,hb5⟩;obtain⟨ka,kc,rfl⟩:=hi2.form;have HG5:=aB (show BbG (exC8 k v1 v2 v3 t n o (.slice a m cap)) many n4 (u4.heap.size+1) (.slice la l.length lc) (.slice ka l.length kc) l W w5 from⟨HF4.o.call hb5,box_bl HL4.o hb5,hs2,HI4.o.more hb5,hi2⟩);have HX5:=aB (keep_b HX4.o hb5);have HY5:=aB (keep_b HY4.o hb5);have HRB5:=aB (HRB4.o.bl hb5);have HRC5:=aB (HRC4.o.bl hb5);clear hb5 hs2 hi2 e0 e1 e2 e3 e4 e5 e6 e7 e8 HF4 HX4 HY4 HRB4 HRC4 HL4 HI4;obtain⟨boxS,hbS⟩:∃boxS,u4.heap.size+1=boxS:=⟨_,rfl⟩
 rw[hbS] at HG5⊢;clear hbS;have hnf:∀w,(binOp BinOp.eql 56 (.func (.func 40) #[] #[.pointer (some ⟨boxS,0,none⟩)]) .nilFunc).run Tryz.prog w= .ok (.bool false) w:=fun _=>by kernel_rfl
 gi_upto_region 7 with fail
 refine(wpIn_region_sdw (fun B=>B.heap[n2]?=some (.cells (cellsB bk bt b1 b2 b3 bp bo bn (.slice ba1 ba.length bc1)) 30 (0,0))/\B.heap[n3]?=some (.cells (cellsB bk bt b1 b2 b3 bp bo bn (.slice ba2 ba.length bc2)) 30 (0,0))) ((.take 0 (.take 1 (.one 2 (.take 3 (.take 4 (.take 5 (.take 7 (.one 6 (.take 8 (.take 9 (.take 10 (.take 11 (.take 13 (.one 12 (.one 14 (.take 15 (.take 16 (.take 17 (.take 18 (.take 19 (.take 20 .done)))))))))))))))))))))) (by kernel_rfl) (by kernel_rfl) (by kernel_rfl) (by kernel_rfl) (fun a w h=>by cases h.1) (⟨keep_b HX5.o ((Bl.refl _).drew),keep_b HY5.o ((Bl.refl _).drew)⟩) ?_);intro wd HWD hY;iterate 2 (refine aI rfl (by rfl) (by intro w hSw;(try dsimp only at hSw);obtain⟨e0,e1,e2,e3,e4,e5,e6,e7,e8⟩:=nine hSw.1;obtain⟨f0,f1,f2,f3,f4,f5,f6,f7,f8⟩:=nine hSw.2;go_simp;(try(first |with_reducible rfl|rfl))) ?_;(try simp only[aK,aA,aD,aF]))
 refine aL rfl (fun K hK=>?_);go_simp;(refine(HSM.o _ _ _ (HRB5.o.bl HWD.o) (HRC5.o.bl HWD.o)).mono ?_;rintro e z2 ⟨rfl,hb2⟩;have HC2:=aB (HWD.o.call hb2));go_wp2_with fail;refine hK.o _ _ ((by first |exact hY|exact⟨keep_b hY.1 hb2,keep_b hY.2 hb2⟩|exact⟨keep_b hY.1 hb12,keep_b hY.2 hb12⟩|exact⟨keep_b hY.1 hb14,keep_b hY.2 hb14⟩)) ?_;clear hY hK K;intro hY;iterate 4 (refine aI rfl (by rfl) (by intro w hSw;(try dsimp only at hSw);obtain⟨e0,e1,e2,e3,e4,e5,e6,e7,e8⟩:=nine hSw.1;obtain⟨f0,f1,f2,f3,f4,f5,f6,f7,f8⟩:=nine hSw.2;go_simp;(try(first |with_reducible rfl|rfl))) ?_;(try simp only[aK,aA,aD,aF]))
 refine aL rfl (fun K hK=>?_);go_simp;((with_reducible refine(num20_any _ _).mono ?_);rintro e z6 ⟨rfl,rfl⟩);go_wp2_with fail;refine hK.o _ _ ((by first |exact hY|exact⟨keep_b hY.1 hb2,keep_b hY.2 hb2⟩|exact⟨keep_b hY.1 hb12,keep_b hY.2 hb12⟩|exact⟨keep_b hY.1 hb14,keep_b hY.2 hb14⟩)) ?_;clear hY hK K;intro hY;iterate 5 (refine aI rfl (by rfl) (by intro w hSw;(try dsimp only at hSw);obtain⟨e0,e1,e2,e3,e4,e5,e6,e7,e8⟩:=nine hSw.1;obtain⟨f0,f1,f2,f3,f4,f5,f6,f7,f8⟩:=nine hSw.2;go_simp;(try(first |with_reducible rfl|rfl))) ?_;(try simp only[aK,aA,aD,aF]))
 refine aL rfl (fun K hK=>?_);go_simp;(refine(HS1.o _ _ (HRB5.o.bl HC2.o)).mono ?_;rintro e z12 ⟨rfl,hb12⟩;have HC12:=aB (HC2.o.call hb12));go_wp2_with fail;refine hK.o _ _ ((by first |exact hY|exact⟨keep_b hY.1 hb2,keep_b hY.2 hb2⟩|exact⟨keep_b hY.1 hb12,keep_b hY.2 hb12⟩|exact⟨keep_b hY.1 hb14,keep_b hY.2 hb14⟩)) ?_;clear hY hK K;intro hY;refine aL rfl (fun K hK=>?_);go_simp;(refine(HS2.o _ _ (HRC5.o.bl HC12.o)).mono ?_;rintro e z14 ⟨rfl,hb14⟩;have HC14:=aB (HC12.o.call hb14));go_wp2_with fail;refine hK.o _ _ ((by first |exact hY|exact⟨keep_b hY.1 hb2,keep_b hY.2 hb2⟩|exact⟨keep_b hY.1 hb12,keep_b hY.2 hb12⟩|exact⟨keep_b hY.1 hb14,keep_b hY.2 hb14⟩)) ?_;clear hY hK K;intro hY;iterate 6 (refine aI rfl (by rfl) (by intro w hSw;(try dsimp only at hSw);obtain⟨e0,e1,e2,e3,e4,e5,e6,e7,e8⟩:=nine hSw.1;obtain⟨f0,f1,f2,f3,f4,f5,f6,f7,f8⟩:=nine hSw.2;go_simp;(try(first |with_reducible rfl|rfl))) ?_;(try simp only[aK,aA,aD,aF]))
 refine fO (bF ?_);have HG:=aB (HG5.o.call HC14.o);clear hY hb2 hb12 hb14 HC2 HC12 HC14 HWD HX5 HY5 HRB5 HRC5 HG5 HSM HS1 HS2 HWP HBP HBD HWD0 HPT;have hT0:BbT z14 z14.heap.size (z14.heap.size+1) [] 0 0 ((z14.alloc (.cells #[.int .i64 0] 3)).alloc (.cells #[.int .i64 0] 3)):=
  ⟨((Bl.refl z14).alloc _).alloc _,(Boxed.new z14 3 (.int .i64 0)).alloc _,by have h:=Boxed.new (z14.alloc (.cells #[.int .i64 0] 3)) 3 (.int .i64 0);simpa using h,by simp⟩
 have HT0:=aB hT0;have HSZ:=aB HG.o.f.size;have hsS:boxS<z14.heap.size:=HG.o.sb.lt;clear hT0
 gi_wp2_with fail
 refine wpIn_loop_rounds 3 ?_;rw[roundsIn_succ]
 gi_wp2_with fail
 obtain⟨W1,hW1⟩:∃W1,(z14.alloc (.cells #[.int .i64 0] 3)).alloc (.cells #[.int .i64 0] 3)=W1:=⟨_,rfl⟩
 have hz1:W1.heap.size=z14.heap.size+2:=(by rw[<-hW1];simp);rw[hW1] at HT0⊢;clear hW1;have HZ1:=aB hz1;clear hnf;refine' wpIn_rangeFunc_ownG rfl (by omega) (gf:=40) (lb:= #[.pointer (some ⟨boxS,0,none⟩)]) rfl trivial (enters_of Tryz.func40 (by kernel_rfl) rfl)
  (plSeq_stops Fence.wide (6-1) trivial rfl (by omega) boxS z14.heap.size _ l (by have:=HL90.o;omega) W1 (by omega) (by omega) (Bl.cell HT0.o.bl HG.o.sb.cell) (HG.o.i2.below HT0.o.bl)) belowK_t (belowK_b (by omega)) (bS _ _) (fun _=>rfl)
  (ItB z14 z14.heap.size (z14.heap.size+1) [] many 0 l) (IxB z14 z14.heap.size (z14.heap.size+1) [] many 0 l)
  (fun s A B row hs hg hr=>⟨hs.1.kept (by omega) (by simp) hg hr,hs.2⟩)
  (fun c s A B row hs hg hr=>by
   rcases hs with⟨h1,h2,h3,h4⟩|h
   ·exact .inl ⟨h1,h2,h3.kept (by omega) (by simp) hg hr,h4⟩
   ·exact .inr h)
  ⟨HT0.o,rfl,.inr (.inl rfl)⟩ _ ?assign ?body ?done ?stop
 case assign=>
  intro l0 x A K hK
  gi_wp2
  exact hK
 case body=>
  rintro l0 pre xx A ⟨hT,hpre,hcond⟩ hlen;have HC:=aB hcond;have cm:A.cell? ⟨W.heap.size+1,0,none⟩=some (.int .i64 many):=Bl.cell hT.bl (cK HG.o.f.m);have cl:A.cell? ⟨n4,0,none⟩=some (.slice la (l).length lc):=Bl.cell hT.bl HG.o.lb.cell;have hr:=keep_b HG.o.f.r hT.bl;have cr:=cK hr;have zr:=aJ hr 0;have ct:=hT.t.cell;have cn:=hT.n.cell;have zn:=aJ (show A.heap[(z14.heap.size+1)]?=_ from hT.n) 0;have HLN:=aB (show(pre++[xx]).length=pre.length+1 from by simp);have HTK:=aB (bT (fun h=>takeI_ok (x:=xx) hpre hlen h) (fun h=>takeI_no (x:=xx) (l:=l) (pre:=pre) hlen h));obtain⟨-,h0⟩|⟨lb,lo,lcap,e,hlb,hcs⟩:=HG.o.i1
  ·rw[h0] at hlen;cases hlen
  obtain⟨rfl,rfl⟩:la=some ⟨lb,lo,none⟩/\lc=lcap:=(by simpa using e);have ce:A.cell? ⟨lb,lo+pre.length,none⟩=some (.int .i64 (l)[pre.length]):=by
   have h:=hcs pre.length hlen;rw[aP hlen,oQ] at h;exact Bl.cell hT.bl h
  obtain⟨y,hy⟩:∃y,(l)[pre.length]=y:=⟨_,rfl⟩
  rw[hy] at ce HTK;obtain⟨k,hk⟩:∃k,pre.length=k:=⟨_,rfl⟩
  rw[hk] at ce cn hlen HLN HC hT;have hge:¬(((l).length:Int)<=(k:Int)):=(by omega);have hk90:k<=90:=(by have:=HL90.o;omega);have hT1:=hT.setN (by omega) (by omega) ((k:Int)+1);have HT1:=aB hT1;have ct1:=hT1.t.cell;have cn1:=hT1.n.cell;have cm1:(A.setCell ⟨(z14.heap.size+1),0,none⟩ (.int .i64 ((k:Int)+1))).cell? ⟨W.heap.size+1,0,none⟩=some (.int .i64 many):=Bl.cell hT1.bl (cK HG.o.f.m);clear hT hT1 hpre hcond hr hcs e hlb hy hk;by_cases hx:xx=y
  ·subst hx;have hne:(xx != xx)=false:=(by simp);by_cases hmany:many<=(k:Int)+1
   ·gi_wp2
    exact⟨(KeepsOthers.setCell _ _ _).from _,.inl ⟨rfl,rfl,by rw[HLN.o];exact HT1.o,by rw[HLN.o];omega,by rw[HLN.o];omega,by rw[HLN.o];have:=HC.o;omega⟩⟩
   ·gi_wp2
    exact⟨(KeepsOthers.setCell _ _ _).from _,(bS _ A).setCell (p:=⟨z14.heap.size+1,0,none⟩) (by show _<=z14.heap.size+1;omega) _,by rw[HLN.o];exact HT1.o,HTK.o.1 (by first |rfl|trivial),.inr (.inr (by rw[HLN.o];omega))⟩
  ·skip
   have hne:(xx != y)=true:=(by simpa using hx);have HNO:=aB (HTK.o.2 hx);clear hx
   gi_wp2
   exact⟨(KeepsOthers.setCell _ _ _).from _,.inr ⟨rfl,HNO.o⟩⟩
 case done=>
  rintro D ys WA hD rfl ⟨hT,-,hc⟩ hK;obtain⟨kk,hkk⟩:∃kk:Nat,ys.length=kk:=⟨_,rfl⟩
  have hmin:min (ys.length:Int) (max 1 many)=(kk:Int):=(by omega);rw[hkk] at hT;clear hc hkk;have HK:=aB hK;have hDl:D<WA.heap.size:=(aC.1 hK).1;have hzA:z14.heap.size<=WA.heap.size:=hT.bl.size;have cm:WA.cell? ⟨W.heap.size+1,0,none⟩=some (.int .i64 many):=Bl.cell hT.bl (cK HG.o.f.m);have cl:WA.cell? ⟨n4,0,none⟩=some (.slice la (ys).length lc):=Bl.cell hT.bl HG.o.lb.cell;have ct:=hT.t.cell;have cn:=hT.n.cell;have hbb:((kk:Int) != min ((ys).length:Int) (max 1 many))=false:=(by rw[hmin];simp);have HT1:=aB (show BbT z14 WA.heap.size (WA.heap.size+1) [D] 1 0 ((WA.alloc (.cells #[.int .i64 1] 3)).alloc (.cells #[.int .i64 0] 3)) from
   ⟨(hT.bl.alloc hzA _).alloc (by simp;omega) _,(Boxed.new WA 3 (.int .i64 1)).alloc _,by have h:=Boxed.new (WA.alloc (.cells #[.int .i64 1] 3)) 3 (.int .i64 0);simpa using h,fun D1 h1=>by
    obtain rfl:D1=D:=(by simpa using h1);rw[(((Bl.refl WA).alloc (.cells #[.int .i64 1] 3)).alloc (.cells #[.int .i64 0] 3)).block _ hDl];exact HK.o⟩)
  clear hT hK hmin
  gi_wp2_with fail
  rw[roundsIn_succ]
  gi_wp2_with fail
  obtain⟨W2,hW2⟩:∃W2,(WA.alloc (.cells #[.int .i64 1] 3)).alloc (.cells #[.int .i64 0] 3)=W2:=⟨_,rfl⟩
  have hz2:W2.heap.size=WA.heap.size+2:=(by rw[<-hW2];simp);rw[hW2] at HT1⊢;clear hW2 cm cl ct cn hbb;refine' wpIn_rangeFunc_ownG rfl (by omega) (gf:=40) (lb:= #[.pointer (some ⟨boxS,0,none⟩)]) rfl trivial (enters_of Tryz.func40 (by kernel_rfl) rfl)
   (plSeq_stops Fence.wide (6-1) trivial rfl (by omega) boxS z14.heap.size _ ys (by have:=HL90.o;omega) W2 (by omega) (by omega) (Bl.cell HT1.o.bl HG.o.sb.cell) (HG.o.i2.below HT1.o.bl)) belowK_t (belowK_b (by omega)) (bS _ _) (fun _=>rfl)
   (ItB z14 WA.heap.size (WA.heap.size+1) [D] many 1 ys) (IxB z14 WA.heap.size (WA.heap.size+1) [D] many 1 ys)
   (fun s A B row hs hg hr=>⟨hs.1.kept (by omega) (fun D1 h1=>by
    obtain rfl:D1=D:=(by simpa using h1);omega) hg hr,hs.2⟩)
   (fun c s A B row hs hg hr=>by
    rcases hs with⟨h1,h2,h3,h4⟩|h
    ·exact .inl ⟨h1,h2,h3.kept (by omega) (fun D1 h1=>by
     obtain rfl:D1=D:=(by simpa using h1);omega) hg hr,h4⟩
    ·exact .inr h)
   ⟨HT1.o,rfl,.inl rfl⟩ _ ?assignA ?bodyA ?doneA ?stopA
  case assignA=>
   intro l0 x A K hK
   gi_wp2
   exact hK
  case bodyA=>
   rintro l0 pre xx A ⟨hT,hpre,hcond⟩ hlen;have HC:=aB hcond;have cm:A.cell? ⟨W.heap.size+1,0,none⟩=some (.int .i64 many):=Bl.cell hT.bl (cK HG.o.f.m);have cl:A.cell? ⟨n4,0,none⟩=some (.slice la (ys).length lc):=Bl.cell hT.bl HG.o.lb.cell;have hr:=keep_b HG.o.f.r hT.bl;have cr:=cK hr;have zr:=aJ hr 0;have ct:=hT.t.cell;have cn:=hT.n.cell;have zn:=aJ (show A.heap[(WA.heap.size+1)]?=_ from hT.n) 0;have HLN:=aB (show(pre++[xx]).length=pre.length+1 from by simp);have HTK:=aB (bT (fun h=>takeI_ok (x:=xx) hpre hlen h) (fun h=>takeI_no (x:=xx) (l:=ys) (pre:=pre) hlen h));obtain⟨-,h0⟩|⟨lb,lo,lcap,e,hlb,hcs⟩:=HG.o.i1
   ·rw[h0] at hlen;cases hlen
   obtain⟨rfl,rfl⟩:la=some ⟨lb,lo,none⟩/\lc=lcap:=(by simpa using e);have ce:A.cell? ⟨lb,lo+pre.length,none⟩=some (.int .i64 (ys)[pre.length]):=by
    have h:=hcs pre.length hlen;rw[aP hlen,oQ] at h;exact Bl.cell hT.bl h
   obtain⟨y,hy⟩:∃y,(ys)[pre.length]=y:=⟨_,rfl⟩
   rw[hy] at ce HTK;obtain⟨k,hk⟩:∃k,pre.length=k:=⟨_,rfl⟩
   rw[hk] at ce cn hlen HLN HC hT;have hge:¬(((ys).length:Int)<=(k:Int)):=(by omega);have hk90:k<=90:=(by have:=HL90.o;omega);have hT1:=hT.setN (by omega) (by omega) ((k:Int)+1);have HT1:=aB hT1;have ct1:=hT1.t.cell;have cn1:=hT1.n.cell;have cm1:(A.setCell ⟨(WA.heap.size+1),0,none⟩ (.int .i64 ((k:Int)+1))).cell? ⟨W.heap.size+1,0,none⟩=some (.int .i64 many):=Bl.cell hT1.bl (cK HG.o.f.m);clear hT hT1 hpre hcond hr hcs e hlb hy hk;by_cases hx:xx=y
   ·subst hx;have hne:(xx != xx)=false:=by simp
    gi_wp2
    exact⟨(KeepsOthers.setCell _ _ _).from _,(bS _ A).setCell (p:=⟨WA.heap.size+1,0,none⟩) (by show _<=WA.heap.size+1;omega) _,by rw[HLN.o];exact HT1.o,HTK.o.1 (by first |rfl|trivial),.inl rfl⟩
   ·skip
    have hne:(xx != y)=true:=(by simpa using hx);have HNO:=aB (HTK.o.2 hx);clear hx
    gi_wp2
    exact⟨(KeepsOthers.setCell _ _ _).from _,.inr ⟨rfl,HNO.o⟩⟩
  case doneA=>
   rintro D' zs W' hD' rfl ⟨hT,-,-⟩ hK';have HK':=aB hK';have hDl':D'<W'.heap.size:=(aC.1 hK').1;have HDm:=aB (hT.d D (by simp));have hDl2:D<W'.heap.size:=(aC.1 HDm.o).1;have cm:W'.cell? ⟨W.heap.size+1,0,none⟩=some (.int .i64 many):=Bl.cell hT.bl (cK HG.o.f.m);have cl:W'.cell? ⟨n4,0,none⟩=some (.slice la zs.length lc):=Bl.cell hT.bl HG.o.lb.cell;have ct:=hT.t.cell;have cn:=hT.n.cell;have HBx:=aB ((Bl.refl W').alloc (.cells #[.int .i64 2] 3));have HR':=aB (keep_b HG.o.f.r hT.bl);have HB':=aB (HG.o.f.bl.call hT.bl);clear hT hK'
   gi_wp2_with fail
   rw[roundsIn_succ]
   gi_wp2_with fail
   refine⟨trivial,?_⟩;refine(callsIn_wide.2 (HWO.o _ (HB'.o.call HBx.o))).mono ?_;rintro e W3 ⟨rfl,hb3⟩;have hb9:Bl W' W3:=HBx.o.call hb3;have hr3:=keep_b HR'.o hb9;have c2:=cK hr3;have g2:=aJ hr3 0;have HB9:=aB hb9;clear hb3 hb9 hr3 cm cl ct cn;have hsz:=HSZ.o
   gi_wp2
   refine bb_leave (br:=W.heap.size+2) (D:=D) (D':=D') rfl (eF c2) ?_ ?_ (by omega) (by omega) (by omega) ((HB'.o.call HB9.o).set (p:=⟨W.heap.size+2,0,none⟩) (by show W.heap.size<=W.heap.size+2;omega) _)
   ·exact(aM W3 ⟨W.heap.size+2,0,none⟩ _ D (by show D≠W.heap.size+2;omega)).trans ((HB9.o.block _ hDl2).trans HDm.o)
   ·exact(aM W3 ⟨W.heap.size+2,0,none⟩ _ D' (by show D'≠W.heap.size+2;omega)).trans ((HB9.o.block _ hDl').trans HK'.o)
  case stopA=>
   rintro D' c pre W' hD' hpre hx hK';rcases hx with⟨rfl,h01,-⟩|⟨rfl,hno⟩
   ·exact absurd h01 (by decide)
   ·exact absurd (preI_take hpre) hno
 case stop=>
  rintro D c pre WA hD hpre hx hK;rcases hx with⟨rfl,-,hT,hle,hl1,hor⟩|⟨rfl,hno⟩
  ·obtain⟨kk,hkk⟩:∃kk:Nat,pre.length=kk:=⟨_,rfl⟩
   have hpl:pre.length<=l.length:=hpre.length_le;rw[hkk] at hT hle hl1 hor hpl;have hmin:min (l.length:Int) (max 1 many)=(kk:Int):=(by omega);clear hpre hkk hle hl1 hor hpl;have HK:=aB hK;have hDl:D<WA.heap.size:=(aC.1 hK).1;have hzA:z14.heap.size<=WA.heap.size:=hT.bl.size;have cm:WA.cell? ⟨W.heap.size+1,0,none⟩=some (.int .i64 many):=Bl.cell hT.bl (cK HG.o.f.m);have cl:WA.cell? ⟨n4,0,none⟩=some (.slice la (l).length lc):=Bl.cell hT.bl HG.o.lb.cell;have ct:=hT.t.cell;have cn:=hT.n.cell;have hbb:((kk:Int) != min ((l).length:Int) (max 1 many))=false:=(by rw[hmin];simp);have HT1:=aB (show BbT z14 WA.heap.size (WA.heap.size+1) [D] 1 0 ((WA.alloc (.cells #[.int .i64 1] 3)).alloc (.cells #[.int .i64 0] 3)) from
    ⟨(hT.bl.alloc hzA _).alloc (by simp;omega) _,(Boxed.new WA 3 (.int .i64 1)).alloc _,by have h:=Boxed.new (WA.alloc (.cells #[.int .i64 1] 3)) 3 (.int .i64 0);simpa using h,fun D1 h1=>by
     obtain rfl:D1=D:=(by simpa using h1);rw[(((Bl.refl WA).alloc (.cells #[.int .i64 1] 3)).alloc (.cells #[.int .i64 0] 3)).block _ hDl];exact HK.o⟩)
   clear hT hK hmin
   gi_wp2_with fail
   rw[roundsIn_succ]
   gi_wp2_with fail
   obtain⟨W2,hW2⟩:∃W2,(WA.alloc (.cells #[.int .i64 1] 3)).alloc (.cells #[.int .i64 0] 3)=W2:=⟨_,rfl⟩
   have hz2:W2.heap.size=WA.heap.size+2:=(by rw[<-hW2];simp);rw[hW2] at HT1⊢;clear hW2 cm cl ct cn hbb;refine' wpIn_rangeFunc_ownG rfl (by omega) (gf:=40) (lb:= #[.pointer (some ⟨boxS,0,none⟩)]) rfl trivial (enters_of Tryz.func40 (by kernel_rfl) rfl)
    (plSeq_stops Fence.wide (6-1) trivial rfl (by omega) boxS z14.heap.size _ l (by have:=HL90.o;omega) W2 (by omega) (by omega) (Bl.cell HT1.o.bl HG.o.sb.cell) (HG.o.i2.below HT1.o.bl)) belowK_t (belowK_b (by omega)) (bS _ _) (fun _=>rfl)
    (ItB z14 WA.heap.size (WA.heap.size+1) [D] many 1 l) (IxB z14 WA.heap.size (WA.heap.size+1) [D] many 1 l)
    (fun s A B row hs hg hr=>⟨hs.1.kept (by omega) (fun D1 h1=>by
     obtain rfl:D1=D:=(by simpa using h1);omega) hg hr,hs.2⟩)
    (fun c s A B row hs hg hr=>by
     rcases hs with⟨h1,h2,h3,h4⟩|h
     ·exact .inl ⟨h1,h2,h3.kept (by omega) (fun D1 h1=>by
      obtain rfl:D1=D:=(by simpa using h1);omega) hg hr,h4⟩
     ·exact .inr h)
    ⟨HT1.o,rfl,.inl rfl⟩ _ ?assignB ?bodyB ?doneB ?c5v
   case assignB=>
    intro l0 x A K hK
    gi_wp2
    exact hK
   case bodyB=>
    rintro l0 pre xx A ⟨hT,hpre,hcond⟩ hlen;have HC:=aB hcond;have cm:A.cell? ⟨W.heap.size+1,0,none⟩=some (.int .i64 many):=Bl.cell hT.bl (cK HG.o.f.m);have cl:A.cell? ⟨n4,0,none⟩=some (.slice la (l).length lc):=Bl.cell hT.bl HG.o.lb.cell;have hr:=keep_b HG.o.f.r hT.bl;have cr:=cK hr;have zr:=aJ hr 0;have ct:=hT.t.cell;have cn:=hT.n.cell;have zn:=aJ (show A.heap[(WA.heap.size+1)]?=_ from hT.n) 0;have HLN:=aB (show(pre++[xx]).length=pre.length+1 from by simp);have HTK:=aB (bT (fun h=>takeI_ok (x:=xx) hpre hlen h) (fun h=>takeI_no (x:=xx) (l:=l) (pre:=pre) hlen h));obtain⟨-,h0⟩|⟨lb,lo,lcap,e,hlb,hcs⟩:=HG.o.i1
    ·rw[h0] at hlen;cases hlen
    obtain⟨rfl,rfl⟩:la=some ⟨lb,lo,none⟩/\lc=lcap:=(by simpa using e);have ce:A.cell? ⟨lb,lo+pre.length,none⟩=some (.int .i64 (l)[pre.length]):=by
     have h:=hcs pre.length hlen;rw[aP hlen,oQ] at h;exact Bl.cell hT.bl h
    obtain⟨y,hy⟩:∃y,(l)[pre.length]=y:=⟨_,rfl⟩
    rw[hy] at ce HTK;obtain⟨k,hk⟩:∃k,pre.length=k:=⟨_,rfl⟩
    rw[hk] at ce cn hlen HLN HC hT;have hge:¬(((l).length:Int)<=(k:Int)):=(by omega);have hk90:k<=90:=(by have:=HL90.o;omega);have hT1:=hT.setN (by omega) (by omega) ((k:Int)+1);have HT1:=aB hT1;have ct1:=hT1.t.cell;have cn1:=hT1.n.cell;have cm1:(A.setCell ⟨(WA.heap.size+1),0,none⟩ (.int .i64 ((k:Int)+1))).cell? ⟨W.heap.size+1,0,none⟩=some (.int .i64 many):=Bl.cell hT1.bl (cK HG.o.f.m);clear hT hT1 hpre hcond hr hcs e hlb hy hk;by_cases hx:xx=y
    ·subst hx;have hne:(xx != xx)=false:=by simp
     gi_wp2
     exact⟨(KeepsOthers.setCell _ _ _).from _,(bS _ A).setCell (p:=⟨WA.heap.size+1,0,none⟩) (by show _<=WA.heap.size+1;omega) _,by rw[HLN.o];exact HT1.o,HTK.o.1 (by first |rfl|trivial),.inl rfl⟩
    ·skip
     have hne:(xx != y)=true:=(by simpa using hx);have HNO:=aB (HTK.o.2 hx);clear hx
     gi_wp2
     exact⟨(KeepsOthers.setCell _ _ _).from _,.inr ⟨rfl,HNO.o⟩⟩
   case doneB=>
    rintro D' zs W' hD' rfl ⟨hT,-,-⟩ hK';have HK':=aB hK';have hDl':D'<W'.heap.size:=(aC.1 hK').1;have HDm:=aB (hT.d D (by simp));have hDl2:D<W'.heap.size:=(aC.1 HDm.o).1;have cm:W'.cell? ⟨W.heap.size+1,0,none⟩=some (.int .i64 many):=Bl.cell hT.bl (cK HG.o.f.m);have cl:W'.cell? ⟨n4,0,none⟩=some (.slice la zs.length lc):=Bl.cell hT.bl HG.o.lb.cell;have ct:=hT.t.cell;have cn:=hT.n.cell;have HBx:=aB ((Bl.refl W').alloc (.cells #[.int .i64 2] 3));have HR':=aB (keep_b HG.o.f.r hT.bl);have HB':=aB (HG.o.f.bl.call hT.bl);clear hT hK'
    gi_wp2_with fail
    rw[roundsIn_succ]
    gi_wp2_with fail
    refine⟨trivial,?_⟩;refine(callsIn_wide.2 (HWO.o _ (HB'.o.call HBx.o))).mono ?_;rintro e W3 ⟨rfl,hb3⟩;have hb9:Bl W' W3:=HBx.o.call hb3;have hr3:=keep_b HR'.o hb9;have c2:=cK hr3;have g2:=aJ hr3 0;have HB9:=aB hb9;clear hb3 hb9 hr3 cm cl ct cn;have hsz:=HSZ.o
    gi_wp2
    refine bb_leave (br:=W.heap.size+2) (D:=D) (D':=D') rfl (eF c2) ?_ ?_ (by omega) (by omega) (by omega) ((HB'.o.call HB9.o).set (p:=⟨W.heap.size+2,0,none⟩) (by show W.heap.size<=W.heap.size+2;omega) _)
    ·exact(aM W3 ⟨W.heap.size+2,0,none⟩ _ D (by show D≠W.heap.size+2;omega)).trans ((HB9.o.block _ hDl2).trans HDm.o)
    ·exact(aM W3 ⟨W.heap.size+2,0,none⟩ _ D' (by show D'≠W.heap.size+2;omega)).trans ((HB9.o.block _ hDl').trans HK'.o)
   case c5v=>
    rintro D' c pre W' hD' hpre hx hK';rcases hx with⟨rfl,h01,-⟩|⟨rfl,hno⟩
    ·exact absurd h01 (by decide)
    ·exact absurd (preI_take hpre) hno
  ·exact absurd (preI_take hpre) hno
theorem bindQ_parts(fs:List Fd)(x:Ex):partsD (bindQ fs x).1<=fC x:=by
 have h1:=bind_parts fs x;have h2:=oM x;have h3:partsD zeroD=1:=rfl;unfold bindQ
 repeat' split
 all_goals first
  |(show partsD zeroD<=_;omega)
  |exact h1
theorem bbinds_all(fs:List Fd)(x:Ex)(many:Int)(hm0: -9223372036854775808<=many)(hm1:many<=9223372036854775807)(W:World)(v:Value)(fa:Option Addr)(fc:Nat)(hfc:fs.length<=fc)(hv:eO W x v)(hK:c4f x)(hfd:ReadsFd (fun _=>True) W (.slice fa fs.length fc) fs)(hG:nD W):
  Calls Tryz.prog 4 #[.slice fa fs.length fc,v,.int .i64 many] W (Yes W):=by
 have HPT:Hid (∀W',Bl W W'->Calls Tryz.prog 11 #[v,.int .i64 40] W' fun e w'=>e= .returned (.int .i64 (partsV 1100 40 x:Int))/\Bl W' w'):=fun W' hb=>parts20_any _ x (aH _) 40 40 W' v rfl (by omega) (hv.bl hb);have HWO:Hid (∀W',Bl W W'->Calls Tryz.prog 7 #[] W' fun e w'=>e= .returned (.bool true)/\Bl W' w'):=fun W' hb=>works20_any W' (hG.bl hb);by_cases hb:170<fs.length\/40<partsV 1100 40 x
 ·exact bbinds_bad fs.length x many W v hv fa fc _ HPT HWO hb
 ·obtain⟨hp,hS⟩:=c2s 1100 40 x (by omega);have hL:=hS.lens (by omega);exact bbinds_good fs.length (by omega) x many hm0 hm1 W v hv fa fc _ (by omega) (bindQ fs x) (by have:=bindQ_parts fs x;omega) HPT HWO (fun W' hb=>bBind_any fs (by omega) x (by omega) hL W' (hG.bl hb) fa fc hfc v (hv.bl hb) (hfd.bl hb)) (fun W' hb=>wBind_any fs (by omega) x (by omega) hK hL W' fa fc v (hv.bl hb) (hfd.bl hb))
end
end Go.Proofs.YtkimpcmkminffaaGreatDoor
