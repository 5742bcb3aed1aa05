/- Texts beside the shared ones. -/
import Derived.Test.YtkimpcmkminffaaGreatDoorWX0
import Derived.Test.YtkimpcmkminffaaGreatDoorWM8
import Derived.Test.YtkimpcmkminffaaGreatDoorWM7
namespace Go.Proofs.YtkimpcmkminffaaGreatDoor
open Go.RowKit
open _root_.Go.Act renaming put->aK
open _root_.Array renaming getElem?_eq_some_iff->aC
open _root_.Go.Lib renaming cell_of_heap->aG,hid->aB
open _root_.List renaming drop_length->dO,getElem_mem->dS,mem_cons->dD,setIfInBounds_toArray->aA,set_cons_succ->aF,set_cons_zero->aD
open _root_.Nat renaming le_refl->aH,zero_le->dL
open NoPanic renaming normal->bF
open _root_.Go.World renaming size_alloc->aR
set_option maxRecDepth 100000
set_option maxHeartbeats 16000000
section
theorem size20_any:∀(m:Nat) (x:Bd),partsD x<=m->∀(q:Int) (most:Nat) (W:World) (v:Value),q=(most:Int)->most<=1000->ReadsD W x v->Calls Tryz.prog 5 #[v,.int .i64 q] W fun e w'=>e= .returned (.int .i64 (sizeV 1100 most x:Int))/\Bl W w'
 |0,x,h,_,_,_,_,_,_,_=>by have:=partsD_pos x;omega
 |m+1,x,hx,q,most,W,v,hq,hm,hv=>by
  subst hq;obtain⟨sv,rfl,hL⟩:=hv;obtain⟨a,cap,rfl,hc⟩:=hL.shape;have IH:Hid (∀y∈x.args,∀(q:Int) (most:Nat) (W:World) (v:Value),q=(most:Int)->most<=1000->ReadsD W y v->Calls Tryz.prog 5 #[v,.int .i64 q] W fun e w'=>e= .returned (.int .i64 (sizeV 1100 most y:Int))/\Bl W w'):=fun y hy=>size20_any m y (by have:=partsD_arg hy;omega);have HC:=aB hc;clear hc hL hx;obtain⟨k,t,⟨v1,v2,v3⟩,p,o,nm,args⟩:=x;simp only[Bd.k,Bd.t,Bd.v,Bd.p,Bd.o,Bd.n,Bd.args] at *;by_cases hb1:1100<v3.length
  ·have h1:(1100:Int)<(v3.length:Int):=by omega
   have HE:Hid ((sizeV 1100 most (.mk k t (v1,v2,v3) p o nm args):Int)=(most:Int)+1):=(by show _=_;simp[sizeV,bigD,hb1]);rw[HE.o];clear hb1;go_enter Tryz.func5,Tryz.ntmps5;go_wp2;go_ret;exact⟨by go_num,(Bl.refl W).alloc _⟩
  by_cases hb3:100<nm.length
  ·have h1:¬(1100:Int)<(v3.length:Int):=by omega
   have h3:(100:Int)<(nm.length:Int):=(by omega);have HE:Hid ((sizeV 1100 most (.mk k t (v1,v2,v3) p o nm args):Int)=(most:Int)+1):=(by show _=_;simp[sizeV,bigD,hb3]);rw[HE.o];clear hb1 hb3;go_enter Tryz.func5,Tryz.ntmps5;go_wp2;go_ret;exact⟨by go_num,(Bl.refl W).alloc _⟩
  have h1:¬(1100:Int)<(v3.length:Int):=(by omega);have h3:¬(100:Int)<(nm.length:Int):=(by omega);have HE:Hid (sizeV 1100 most (.mk k t (v1,v2,v3) p o nm args)=sVs 1100 most 1 args):=(by show _=_;simp[sizeV,bigD,hb1,hb3]);rw[HE.o];clear hb1 hb3 HE;obtain⟨R,HRR⟩:∃R,Hid (sVs 1100 most 1 args=R):=⟨_,rfl⟩
  rw[HRR.o];go_enter Tryz.func5,Tryz.ntmps5;go_wp2_with fail;clear h1 h3;go_loopw [5,6] (fun n i wr=>∃j z:Nat,j<=args.length/\j<z/\z<=most+1/\n= .int .i64 (z:Int)/\i= .int .i64 (j:Int)/\Hid (R=sVs 1100 most z (args.drop j))/\Bl W wr/\
   Hid (wr.heap[W.heap.size]?=some (.cells #[.int .i64 k,.int .i64 t,.int .i64 v1,.int .i64 v2,S v3,.int .i64 p,.int .i64 o,S nm,.slice a args.length cap] 30 (0,0)))) (fun _ i _=>args.length-(intOf i).toNat)
  case atStart=>exact⟨0,1,dL _,by omega,by omega,rfl,rfl,HRR.o.symm,(Bl.refl W).alloc _,aN _ _⟩
  case round=>
   obtain⟨j,z,hj,hjz,hz,rfl,rfl,HD,hB,HX⟩:=hrel;obtain⟨-,-,-,-,-,-,-,-,c7⟩:=nine HX.o;by_cases hlt:j<args.length
   ·have hltI:(j:Int)<(args.length:Int):=by omega
    by_cases hzm:z<=most
    ·have hzI:(z:Int)<=(most:Int):=by omega
     obtain⟨b,off,s,rfl,-,hbl,h8,hr⟩:=HC.o j hlt;have HB:=aB hB;have HY:=aB (IH.o _ (dS hlt));have HDj:=aB (sVs_drop (lim:=1100) hlt hzm);have HPL:=aB (sV_le 1100 (most-z) args[j]);have HR:=aB (hr.bl hB);obtain⟨e0,e1,e2,e3,e4,e5,e6,e7,e8⟩:=(h8.keep (hB.block b hbl)).nine;clear h8 hr hB;generalize hy:args[j]=y at *;clear hy;obtain⟨k',t',⟨v1',v2',v3'⟩,p',o',nm',args'⟩:=y;simp only[Bd.k,Bd.t,Bd.v,Bd.p,Bd.o,Bd.n] at e0 e1 e2 e3 e4 e5 e6 e7;go_wp2_with fail;have hRE:ReadsD wr (.mk k' t' (v1',v2',v3') p' o' nm' args') (BdV k' t' (v1',v2',v3') p' o' nm' s):=⟨s,rfl,HR.o⟩
     (with_reducible refine(HY.o _ (most-z) _ _ (by go_num) (by omega) hRE).mono ?_)
     rintro e w1 ⟨rfl,hb1⟩;have HB1:=aB (HB.o.call hb1);have HX1:=aB ((hb1.block _ (aC.1 HX.o).1).trans HX.o);clear hb1 e0 e1 e2 e3 e4 e5 e6 e7 e8 c7;obtain⟨g,HG⟩:∃g,Hid (sizeV 1100 (most-z) (.mk k' t' (v1',v2',v3') p' o' nm' args')=g):=⟨_,rfl⟩
     rw[HG.o];have hg:1<=g/\g<=most-z+1:=(by have:=HPL.o;rw[HG.o] at this;exact this);go_wp2;go_roundw
     case rel=>exact⟨j+1,z+g,by omega,by omega,by omega,by go_num,by go_num,by show _=_;rw[HD.o,HDj.o,HG.o],HB1.o,HX1.o⟩
     case measure=>simp[intOf];omega
    ·have hzI:¬(z:Int)<=(most:Int):=by omega
     have HE:Hid (R=z):=(by show _=_;rw[HD.o,sVs_stop (by omega)]);go_wp2;go_ret;exact⟨by rw[HE.o]<;>rfl,hB⟩
   ·have hltI:¬(j:Int)<(args.length:Int):=by omega
    obtain rfl:j=args.length:=(by omega);have HE:Hid (R=z):=(by show _=_;rw[HD.o,dO];simp only[sVs]);go_wp2;go_ret;exact⟨by rw[HE.o]<;>rfl,hB⟩
theorem num20_any(n:Int)(w:World):Calls Tryz.prog 9 #[.int .i64 n] w fun e w'=>e= .returned (.int .i64 n)/\w=w':=by
 go_enter Tryz.func9,Tryz.ntmps9;go_wp2;go_ret;exact⟨rfl,rfl⟩
theorem column20_any(t n:List UInt8)(w:World):Calls Tryz.prog 20 #[S t,S n] w fun e w'=>e= .returned (EV 2 (0,0,[]) t n 0 (.slice none 0 0))/\Bl w w':=by
 go_enter Tryz.func20,Tryz.ntmps20;go_wp2;exact bodyPost_ret (v:=EV 2 (0,0,[]) t n 0 (.slice none 0 0)) (by simp[results,Tryz.results20,go_sem]) rfl ⟨rfl,(Bl.refl w).alloc _⟩
theorem count20_any(w:World):Calls Tryz.prog 22 #[] w fun e w'=>e= .returned (EV 5 (0,0,[]) [] gX 0 (.slice none 0 0))/\Bl w w':=by
 go_enter Tryz.func22,Tryz.ntmps22;go_wp2;exact bodyPost_ret (v:=EV 5 (0,0,[]) [] gX 0 (.slice none 0 0)) (by simp[results,Tryz.results22,go_sem,gX]) rfl ⟨rfl,(Bl.refl w).alloc _⟩
end
section
def fs20:List Fd:=[⟨[116],[97],2⟩,⟨[116],[98],3⟩,⟨[117],[97],2⟩]
abbrev c20E(t n:List UInt8):Ex:= .mk 2 (0,0,[]) t n 0 []
abbrev o20E:Ex:= .mk 1 (2,1,[]) [] [] 0 []
abbrev p20E(a b:Ex):Ex:= .mk 3 (0,0,[]) [] [] 1 [a,b]
abbrev s20E(n:List UInt8)(l:List Ex):Ex:= .mk 5 (0,0,[]) [] n 0 l
abbrev aD20:Bd:= .mk 3 2 (0,0,[]) 0 1 [] [.mk 2 2 (0,0,[]) 0 0 [] [],.mk 1 2 (2,1,[]) 0 0 [] []]
abbrev bD20:Bd:= .mk 3 2 (0,0,[]) 0 1 [] [.mk 5 2 (0,0,[]) 0 0 c1m [.mk 2 2 (0,0,[]) 0 0 [] []],.mk 5 2 (0,0,[]) 0 0 gX [.mk 2 3 (0,0,[]) 1 0 [] []]]
theorem bq1:bindQ fs20 (p20E (c20E [116] [97]) o20E)=(aD20,0):=by rfl
theorem bq2:bindQ fs20 (c20E [] [97])=(zeroD,301):=by rfl
theorem bq3:bindQ fs20 (c20E [] [99])=(zeroD,300):=by rfl
theorem bq4:bindQ fs20 (p20E (c20E [] [98]) o20E)=(zeroD,120):=by rfl
theorem bq5:bindQ fs20 (s20E c1m [s20E gX []])=(zeroD,302):=by rfl
theorem bq6:bindQ fs20 (p20E (s20E c1m [c20E [116] [97]]) (s20E gX [c20E [] [98]]))=(bD20,0):=by rfl
theorem ev20:evalQ aD20 [(2,4,[]),(3,0,[120]),(2,5,[])]=((2,5,[]),0):=by rfl
theorem gr20:groupQ bD20 [[(2,1,[]),(0,0,[]),(2,0,[])],[(2,2,[]),(3,0,[120]),(2,0,[])]]=((2,4,[]),0):=by rfl
end
section
theorem fields20{W:World}{g:Nat}{t:TypeId}(h:W.heap[g]?=some (.cells #[S [116],S [97],.int .i64 2,S [116],S [98],.int .i64 3,S [117],S [97],.int .i64 2] t (0,0))):ReadsFd (fun _=>True) W (.slice (some ⟨g,0,none⟩) fs20.length 3) fs20:=by
 refine⟨_,_,rfl,fun j f hj=>?_⟩;have hg:g<W.heap.size:=(aC.1 h).1;refine⟨g,0,rfl,trivial,hg,fun i v hi=>?_⟩;rw[aG h]
 match j,hj with
 |0,hj=>
  obtain rfl:(⟨[116],[97],2⟩:Fd)=f:=by simpa[fs20] using hj
  match i,hi with
  |0,hi=>simpa[cellsF] using hi
  |1,hi=>simpa[cellsF] using hi
  |2,hi=>simpa[cellsF] using hi
  |i+3,hi=>simp[cellsF] at hi
 |1,hj=>
  obtain rfl:(⟨[116],[98],3⟩:Fd)=f:=by simpa[fs20] using hj
  match i,hi with
  |0,hi=>simpa[cellsF] using hi
  |1,hi=>simpa[cellsF] using hi
  |2,hi=>simpa[cellsF] using hi
  |i+3,hi=>simp[cellsF] at hi
 |2,hj=>
  obtain rfl:(⟨[117],[97],2⟩:Fd)=f:=by simpa[fs20] using hj
  match i,hi with
  |0,hi=>simpa[cellsF] using hi
  |1,hi=>simpa[cellsF] using hi
  |2,hi=>simpa[cellsF] using hi
  |i+3,hi=>simp[cellsF] at hi
 |j+3,hj=>simp[fs20] at hj
theorem row_three{W:World}{g:Nat}{a b c:Vl}{t:TypeId}(h:W.heap[g]?=some (.cells #[.int .i64 a.1,.int .i64 a.2.1,S a.2.2,.int .i64 b.1,.int .i64 b.2.1,S b.2.2,.int .i64 c.1,.int .i64 c.2.1,S c.2.2] t (0,0))):ReadsVl (fun _=>True) W (.slice (some ⟨g,0,none⟩) 3 3) [a,b,c]:=by
 refine⟨_,_,rfl,fun j f hj=>?_⟩;have hg:g<W.heap.size:=(aC.1 h).1;refine⟨g,0,rfl,trivial,hg,fun i v hi=>?_⟩;rw[aG h]
 match j,hj with
 |0,hj=>
  obtain rfl:a=f:=by simpa using hj
  match i,hi with
  |0,hi=>simpa[cells3] using hi
  |1,hi=>simpa[cells3] using hi
  |2,hi=>simpa[cells3] using hi
  |i+3,hi=>simp[cells3] at hi
 |1,hj=>
  obtain rfl:b=f:=by simpa using hj
  match i,hi with
  |0,hi=>simpa[cells3] using hi
  |1,hi=>simpa[cells3] using hi
  |2,hi=>simpa[cells3] using hi
  |i+3,hi=>simp[cells3] at hi
 |2,hj=>
  obtain rfl:c=f:=by simpa using hj
  match i,hi with
  |0,hi=>simpa[cells3] using hi
  |1,hi=>simpa[cells3] using hi
  |2,hi=>simpa[cells3] using hi
  |i+3,hi=>simp[cells3] at hi
 |j+3,hj=>simp at hj
theorem rows_two{W:World}{g:Nat}{s t:Value}{r q:List Vl}{ty:TypeId}(h:W.heap[g]?=some (.cells #[s,t] ty (0,0)))(hr:ReadsVl (fun _=>True) W s r)(hq:ReadsVl (fun _=>True) W t q):ReadsRw (fun _=>True) W (.slice (some ⟨g,0,none⟩) 2 2) [r,q]:=by
 refine⟨_,_,rfl,fun j f hj=>?_⟩;have hg:g<W.heap.size:=(aC.1 h).1
 match j,hj with
 |0,hj=>
  obtain rfl:r=f:=(by simpa using hj);exact⟨g,0,s,rfl,trivial,hg,by rw[aG h];rfl,hr⟩
 |1,hj=>
  obtain rfl:q=f:=(by simpa using hj);exact⟨g,0,t,rfl,trivial,hg,by rw[aG h];rfl,hq⟩
 |j+2,hj=>simp at hj
theorem readsE_nil(W:World)(k:Int)(v:Vl)(t n:List UInt8)(o:Int):eO W (.mk k v t n o []) (EV k v t n o (.slice none 0 0)):=⟨_,rfl,.mk none 0 [] (fun _=> .slice none 0 0) (fun j x h=>by simp at h) (fun j x h=>by simp at h)⟩
theorem plus20_any(x y:Ex)(W:World)(v u:Value)(hv:eO W x v)(hu:eO W y u):Calls Tryz.prog 19 #[v,u] W fun e w'=>(∃g,e= .returned (EV 3 (0,0,[]) [] [] 1 (.slice (some ⟨g,0,none⟩) 2 2))/\gU w' (.slice (some ⟨g,0,none⟩) 2 2) [x,y])/\Bl W w':=by
 obtain⟨sv,rfl,hL⟩:=hv;obtain⟨a,cap,rfl,-⟩:=hL.shape;obtain⟨su,rfl,hM⟩:=hu;obtain⟨a2,cap2,rfl,-⟩:=hM.shape;have HL:=aB (fun W' (hb:Bl W W')=>hL.bl hb);have HM:=aB (fun W' (hb:Bl W W')=>hM.bl hb);clear hL hM;obtain⟨k,⟨v1,v2,v3⟩,t,n,o,args⟩:=x;obtain⟨k2,⟨u1,u2,u3⟩,t2,n2,o2,args2⟩:=y;simp only[Ex.k,Ex.v,Ex.t,Ex.n,Ex.o,Ex.args] at *;have HTW:=aB (fun(W':World) (b:Nat) (ty:TypeId) hb (hb1:Bl W W')=>c5y (W:=W') (b:=b) (t:=ty) (x:= .mk k (v1,v2,v3) t n o args) (y:= .mk k2 (u1,u2,u3) t2 n2 o2 args2) (sv:= .slice a args.length cap) (sw:= .slice a2 args2.length cap2) 2 hb (HL.o W' hb1) (HM.o W' hb1));simp only[Ex.k,Ex.v,Ex.t,Ex.n,Ex.o] at HTW;clear HL HM;generalize hm:args.length=m at *;generalize hm2:args2.length=m2 at *;go_enter Tryz.func19,Tryz.ntmps19;go_wp2;exact bodyPost_ret (v:=EV 3 (0,0,[]) [] [] 1 (.slice (some ⟨W.heap.size+3,0,none⟩) 2 2)) (by simp[results,Tryz.results19,go_sem]) rfl ⟨⟨_,rfl,HTW.o _ _ 47 (aV _ _ (by simp)) ((((Bl.refl W).alloc _).alloc _).alloc _ |>.alloc _)⟩,(((Bl.refl W).alloc _).alloc _).alloc _ |>.alloc _⟩
structure R20(W A:World):Prop where
 f:A.heap[W.heap.size]?=some (.cells #[S [116],S [97],.int .i64 2,S [116],S [98],.int .i64 3,S [117],S [97],.int .i64 2] 62 (0,0))
 o:A.heap[W.heap.size+1]?=some (.cells #[.int .i64 1,.int .i64 2,.int .i64 1,S [],S [],S [],.int .i64 0,.slice none 0 0] 47 (0,0))
 t:A.heap[W.heap.size+2]?=some (.cells #[.int .i64 2,.int .i64 2,S []] 26 (0,0))
 x:A.heap[W.heap.size+3]?=some (.cells #[.int .i64 3,.int .i64 0,S [120]] 26 (0,0))
 z:A.heap[W.heap.size+4]?=some (.cells #[.int .i64 2,.int .i64 0,S []] 26 (0,0))
 r:A.heap[W.heap.size+5]?=some (.cells #[.int .i64 2,.int .i64 4,S []] 26 (0,0))
 v:A.heap[W.heap.size+6]?=some (.cells #[.int .i64 2,.int .i64 5,S []] 26 (0,0))
 sz:W.heap.size+7<=A.heap.size
 bl:Bl W A
theorem R20.call{W A B:World}(h:R20 W A)(hb:Bl A B):R20 W B:=⟨keep_b h.f hb,keep_b h.o hb,keep_b h.t hb,keep_b h.x hb,keep_b h.z hb,keep_b h.r hb,keep_b h.v hb,by have:=hb.size;have:=h.sz;omega,h.bl.call hb⟩
theorem R20.but{W A B:World}{g:Nat}(h:R20 W A)(hb:But g A B)(hg:W.heap.size+7<=g):R20 W B:=
 ⟨(hb.same _ (by omega)).trans h.f,(hb.same _ (by omega)).trans h.o,(hb.same _ (by omega)).trans h.t,(hb.same _ (by omega)).trans h.x,(hb.same _ (by omega)).trans h.z,(hb.same _ (by omega)).trans h.r,(hb.same _ (by omega)).trans h.v,by rw[hb.size];exact h.sz,hb.bl h.bl (by omega)⟩
abbrev cF20:Obj:= .cells #[S [116],S [97],.int .i64 2,S [116],S [98],.int .i64 3,S [117],S [97],.int .i64 2] 62
abbrev cE20:Obj:= .cells #[.int .i64 1,.int .i64 2,.int .i64 1,S [],S [],S [],.int .i64 0,.slice none 0 0] 47
abbrev cV20(k n:Int)(t:List UInt8):Obj:= .cells #[.int .i64 k,.int .i64 n,S t] 26
theorem R20.start(W:World):R20 W (((((((W.alloc cF20).alloc cE20).alloc (cV20 2 2 [])).alloc (cV20 3 0 [120])).alloc (cV20 2 0 [])).alloc (cV20 2 4 [])).alloc (cV20 2 5 [])):=by
 have h0:=aN W cF20;have h1:=aV (W.alloc cF20) cE20 (k:=W.heap.size+1) (by simp);have h2:=aV ((W.alloc cF20).alloc cE20) (cV20 2 2 []) (k:=W.heap.size+2) (by simp);have h3:=aV (((W.alloc cF20).alloc cE20).alloc (cV20 2 2 [])) (cV20 3 0 [120]) (k:=W.heap.size+3) (by simp);have h4:=aV ((((W.alloc cF20).alloc cE20).alloc (cV20 2 2 [])).alloc (cV20 3 0 [120])) (cV20 2 0 []) (k:=W.heap.size+4) (by simp);have h5:=aV (((((W.alloc cF20).alloc cE20).alloc (cV20 2 2 [])).alloc (cV20 3 0 [120])).alloc (cV20 2 0 [])) (cV20 2 4 []) (k:=W.heap.size+5) (by simp);have h6:=aV ((((((W.alloc cF20).alloc cE20).alloc (cV20 2 2 [])).alloc (cV20 3 0 [120])).alloc (cV20 2 0 [])).alloc (cV20 2 4 [])) (cV20 2 5 []) (k:=W.heap.size+6) (by simp);exact⟨keep_b h0 (((((((Bl.refl _).alloc _).alloc _).alloc _).alloc _).alloc _).alloc _),keep_b h1 ((((((Bl.refl _).alloc _).alloc _).alloc _).alloc _).alloc _),keep_b h2 (((((Bl.refl _).alloc _).alloc _).alloc _).alloc _),keep_b h3 ((((Bl.refl _).alloc _).alloc _).alloc _),keep_b h4 (((Bl.refl _).alloc _).alloc _),keep_b h5 ((Bl.refl _).alloc _),h6,by simp,(((((((Bl.refl W).alloc _).alloc _).alloc _).alloc _).alloc _).alloc _).alloc _⟩
theorem new_of{W X:World}{o:Obj}(_:R20 W (X.alloc o)):(X.alloc o).heap[X.heap.size]?=some o:=aN X o
theorem new_bl{u X:World}{o:Obj}(_:Bl u (X.alloc o)):(X.alloc o).heap[X.heap.size]?=some o:=aN X o
theorem readsL_nil(W:World):gU W (.slice none 0 0) []:= .mk none 0 [] (fun _=> .slice none 0 0) (fun j x h=>by simp at h) (fun j x h=>by simp at h)
structure K20(A:Nat)(x:Bd)(s:Value)(W B:World):Prop where
 r:R20 W B
 a:B.heap[A]?=some (.cells (cells9 x s).toArray 30 (0,0))
 d:ReadsDL (fun _=>True) B s x.args
theorem K20.call{A:Nat}{x:Bd}{s:Value}{W B C:World}(h:K20 A x s W B)(hb:Bl B C):K20 A x s W C:=⟨h.r.call hb,keep_b h.a hb,h.d.bl hb⟩
theorem works20_any(W:World)(hG:nD W):Calls Tryz.prog 7 #[] W fun e w'=>e= .returned (.bool true)/\Bl W w':=by
 have HBN:Hid (∀(x:Ex) (R:Bd×Int),bindQ fs20 x=R->fC x<=999->Lens x->∀(B:World) (v:Value),R20 W B->eO B x v->Calls Tryz.prog 12 #[.slice (some ⟨W.heap.size,0,none⟩) 3 3,v] B (BindP R B)):=fun x R h hp hl B v hB hv=>by
  rw[<-h];exact bBind_any fs20 (by decide) x (by omega) hl B (hG.bl hB.bl) _ 3 (by decide) v hv (fields20 hB.f)
 clear hG;go_enter Tryz.func7,Tryz.ntmps7
 go_upto_region 5 with fail
 obtain⟨w0,hw0⟩:∃w0,(((((((W.alloc cF20).alloc cE20).alloc (cV20 2 2 [])).alloc (cV20 3 0 [120])).alloc (cV20 2 0 [])).alloc (cV20 2 4 [])).alloc (cV20 2 5 []))=w0:=⟨_,rfl⟩
 have hr0:=R20.start W;rw[hw0] at hr0⊢;have HR0:=aB hr0;clear hw0 hr0
 go_cut [8,9] from 36 to 42 (fun p8 e9 wc=>∃(A:Nat) (s:Value),p8= .pointer (some ⟨A,0,none⟩)/\e9= .int .i64 0/\Hid (K20 A aD20 s W wc))
 case first=>
  refine wp_region_noPanic (bM (fun B=>R20 W B) ((.take 0 (.take 2 (.two 1 8 (.two 3 8 (.two 4 8 (.take 5 (.take 6 (.take 7 (.one 8 (.one 9 (.take 10 .done)))))) (.one 4 (.take 5 (.take 6 (.take 7 (.one 9 (.take 10 .done))))))) (.one 3 (.one 4 (.take 5 (.take 6 (.take 7 (.one 9 (.take 10 .done)))))))) (.one 1 (.one 3 (.one 4 (.take 5 (.take 6 (.take 7 (.one 9 (.take 10 .done)))))))))))) (by kernel_rfl) (by kernel_rfl) (by kernel_rfl) (fun _ _ _ _ _ h=>h) ((HR0.o.call ((Bl.refl _).drew))) ?_);intro wd HWD hY;iterate 2 (refine aI rfl (by rfl) (by intro w hSw;(try dsimp only at hSw);obtain⟨⟨e0,e1,e2,e3,e4,e5,e6,e7⟩,-⟩:=eight hSw.o;go_simp;(try(first |with_reducible rfl|rfl))) ?_;(try simp only[aK,aA,aD,aF]))
  refine sZ ?_ ?_
  focus
   refine aL rfl (fun K hK=>?_);go_simp;(refine(column20_any [116] [97] _).mono ?_;rintro e w1 ⟨rfl,hb1⟩);go_wp2_with fail;refine hK.o _ _ ((by first |exact hY.call hb1|exact hY.call hb3|exact hY.call hb4|exact hY.but hB9 HSZ.o)) ?_;clear hY hK K;intro hY;refine sZ ?_ ?_
   focus
    refine aL rfl (fun K hK=>?_);go_simp;(refine(plus20_any (c20E [116] [97]) o20E _ _ _ (readsE_nil _ _ _ _ _ _) (readsE_nil _ _ _ _ _ _)).mono ?_;rintro e w3 ⟨⟨g3,rfl,hr3⟩,hb3⟩);go_wp2_with fail;refine hK.o _ _ ((by first |exact hY.call hb1|exact hY.call hb3|exact hY.call hb4|exact hY.but hB9 HSZ.o)) ?_;clear hY hK K;intro hY;refine sZ ?_ ?_
    focus
     refine aL rfl (fun K hK=>?_);go_simp;(refine(HBN.o _ _ bq1 (by decide) (c2c _ (by rfl)).2 _ _ hY (by first |exact⟨_,rfl,hr3⟩|exact⟨_,rfl,hr3.bl ((Bl.refl _).alloc _)⟩)).mono ?_;rintro e w4 ⟨⟨v4,rfl,s4,rfl,hs4⟩,hb4⟩;obtain⟨a4,c4,rfl,-⟩:=id hs4.shape);go_wp2_with fail;refine hK.o _ _ ((by first |exact hY.call hb1|exact hY.call hb3|exact hY.call hb4|exact hY.but hB9 HSZ.o)) ?_;clear hY hK K;intro hY;iterate 3 (refine aI rfl (by rfl) (by intro w hSw;(try dsimp only at hSw);obtain⟨⟨e0,e1,e2,e3,e4,e5,e6,e7⟩,-⟩:=eight hSw.o;go_simp;(try(first |with_reducible rfl|rfl))) ?_;(try simp only[aK,aA,aD,aF]))
     have HSZ:=aB hY.sz;refine aL rfl (fun K hK=>?_);go_simp;refine hK.o _ _ ((hY.call ((Bl.refl _).alloc _))) ?_;clear hY hK K;intro hY;have HA8:=aB (new_of hY);refine aL rfl (fun K hK=>?_);rw[if_pos (by rfl)];refine bC rfl rfl rfl ([.int .i64 3,.int .i64 2,.int .i64 0,.int .i64 0,S [],.int .i64 0,.int .i64 1,S [],.slice a4 2 c4]) (by first |exact HA8.o|exact keep_b HA8.o hb4|exact keep_b (keep_b HA8.o hb3) hb4|exact keep_b (keep_b (keep_b HA8.o hb1) hb3) hb4) rfl rfl bdInfo rfl ?_;intro w9 hB9 hX9;refine hK.o _ _ ((by first |exact hY.call hB91|exact hY.call hB93|exact hY.call hB94|exact hY.but hB9 HSZ.o)) ?_;clear hY hK K;intro hY;(try simp only[aK])
     refine aI rfl (by rfl) (by intro w hSw;(try dsimp only at hSw);obtain⟨⟨e0,e1,e2,e3,e4,e5,e6,e7⟩,-⟩:=eight hSw.o;go_simp;(try(first |with_reducible rfl|rfl))) ?_;(try simp only[aK,aA,aD,aF])
     refine fO (bF ?_);go_wp2
     go_meet
     case rel=>exact⟨_,_,rfl,rfl,hY,hX9,(by first |exact((hs4.of (q:=fun b=>b<w4.heap.size) (fun b hl _=>hl)).bl ((Bl.refl w4).alloc _)).keep (r:=fun _=>True) (Nat.le_of_eq hB9.size.symm) (fun _ _=>trivial) (fun b hb _=>hB9.same b (Nat.ne_of_lt hb))|exact hs4.keep (r:=fun _=>True) (Nat.le_of_eq hB9.size.symm) (fun _ _=>trivial) fun b (h:_<=b) _=>hB9.same b (by have h1:=hb1.size;have h3:=hb3.size;simp only[aR] at h h1 h3⊢;omega))⟩
    rotate_left 1
    focus
     have HSZ:=aB hY.sz;refine aL rfl (fun K hK=>?_);go_simp;refine hK.o _ _ ((hY.call ((Bl.refl _).alloc _))) ?_;clear hY hK K;intro hY;have HA8:=aB (new_of hY);refine aL rfl (fun K hK=>?_);go_simp;(refine(HBN.o _ _ bq1 (by decide) (c2c _ (by rfl)).2 _ _ hY (by first |exact⟨_,rfl,hr3⟩|exact⟨_,rfl,hr3.bl ((Bl.refl _).alloc _)⟩)).mono ?_;rintro e w4 ⟨⟨v4,rfl,s4,rfl,hs4⟩,hb4⟩;obtain⟨a4,c4,rfl,-⟩:=id hs4.shape);go_wp2_with fail;refine hK.o _ _ ((by first |exact hY.call hb1|exact hY.call hb3|exact hY.call hb4|exact hY.but hB9 HSZ.o)) ?_;clear hY hK K;intro hY;iterate 3 (refine aI rfl (by rfl) (by intro w hSw;(try dsimp only at hSw);obtain⟨⟨e0,e1,e2,e3,e4,e5,e6,e7⟩,-⟩:=eight hSw.o;go_simp;(try(first |with_reducible rfl|rfl))) ?_;(try simp only[aK,aA,aD,aF]))
     refine aL rfl (fun K hK=>?_);rw[if_pos (by rfl)];refine bC rfl rfl rfl ([.int .i64 3,.int .i64 2,.int .i64 0,.int .i64 0,S [],.int .i64 0,.int .i64 1,S [],.slice a4 2 c4]) (by first |exact HA8.o|exact keep_b HA8.o hb4|exact keep_b (keep_b HA8.o hb3) hb4|exact keep_b (keep_b (keep_b HA8.o hb1) hb3) hb4) rfl rfl bdInfo rfl ?_;intro w9 hB9 hX9;refine hK.o _ _ ((by first |exact hY.call hB91|exact hY.call hB93|exact hY.call hB94|exact hY.but hB9 HSZ.o)) ?_;clear hY hK K;intro hY;(try simp only[aK])
     refine aI rfl (by rfl) (by intro w hSw;(try dsimp only at hSw);obtain⟨⟨e0,e1,e2,e3,e4,e5,e6,e7⟩,-⟩:=eight hSw.o;go_simp;(try(first |with_reducible rfl|rfl))) ?_;(try simp only[aK,aA,aD,aF])
     refine fO (bF ?_);go_wp2
     go_meet
     case rel=>exact⟨_,_,rfl,rfl,hY,hX9,(by first |exact((hs4.of (q:=fun b=>b<w4.heap.size) (fun b hl _=>hl)).bl ((Bl.refl w4).alloc _)).keep (r:=fun _=>True) (Nat.le_of_eq hB9.size.symm) (fun _ _=>trivial) (fun b hb _=>hB9.same b (Nat.ne_of_lt hb))|exact hs4.keep (r:=fun _=>True) (Nat.le_of_eq hB9.size.symm) (fun _ _=>trivial) fun b (h:_<=b) _=>hB9.same b (by have h1:=hb1.size;have h3:=hb3.size;simp only[aR] at h h1 h3⊢;omega))⟩
   rotate_left 2
   focus
    have HSZ:=aB hY.sz;refine aL rfl (fun K hK=>?_);go_simp;refine hK.o _ _ ((hY.call ((Bl.refl _).alloc _))) ?_;clear hY hK K;intro hY;have HA8:=aB (new_of hY);refine aL rfl (fun K hK=>?_);go_simp;(refine(plus20_any (c20E [116] [97]) o20E _ _ _ (readsE_nil _ _ _ _ _ _) (readsE_nil _ _ _ _ _ _)).mono ?_;rintro e w3 ⟨⟨g3,rfl,hr3⟩,hb3⟩);go_wp2_with fail;refine hK.o _ _ ((by first |exact hY.call hb1|exact hY.call hb3|exact hY.call hb4|exact hY.but hB9 HSZ.o)) ?_;clear hY hK K;intro hY;refine aL rfl (fun K hK=>?_);go_simp;(refine(HBN.o _ _ bq1 (by decide) (c2c _ (by rfl)).2 _ _ hY (by first |exact⟨_,rfl,hr3⟩|exact⟨_,rfl,hr3.bl ((Bl.refl _).alloc _)⟩)).mono ?_;rintro e w4 ⟨⟨v4,rfl,s4,rfl,hs4⟩,hb4⟩;obtain⟨a4,c4,rfl,-⟩:=id hs4.shape);go_wp2_with fail;refine hK.o _ _ ((by first |exact hY.call hb1|exact hY.call hb3|exact hY.call hb4|exact hY.but hB9 HSZ.o)) ?_;clear hY hK K;intro hY;iterate 3 (refine aI rfl (by rfl) (by intro w hSw;(try dsimp only at hSw);obtain⟨⟨e0,e1,e2,e3,e4,e5,e6,e7⟩,-⟩:=eight hSw.o;go_simp;(try(first |with_reducible rfl|rfl))) ?_;(try simp only[aK,aA,aD,aF]))
    refine aL rfl (fun K hK=>?_);rw[if_pos (by rfl)];refine bC rfl rfl rfl ([.int .i64 3,.int .i64 2,.int .i64 0,.int .i64 0,S [],.int .i64 0,.int .i64 1,S [],.slice a4 2 c4]) (by first |exact HA8.o|exact keep_b HA8.o hb4|exact keep_b (keep_b HA8.o hb3) hb4|exact keep_b (keep_b (keep_b HA8.o hb1) hb3) hb4) rfl rfl bdInfo rfl ?_;intro w9 hB9 hX9;refine hK.o _ _ ((by first |exact hY.call hB91|exact hY.call hB93|exact hY.call hB94|exact hY.but hB9 HSZ.o)) ?_;clear hY hK K;intro hY;(try simp only[aK])
    refine aI rfl (by rfl) (by intro w hSw;(try dsimp only at hSw);obtain⟨⟨e0,e1,e2,e3,e4,e5,e6,e7⟩,-⟩:=eight hSw.o;go_simp;(try(first |with_reducible rfl|rfl))) ?_;(try simp only[aK,aA,aD,aF])
    refine fO (bF ?_);go_wp2
    go_meet
    case rel=>exact⟨_,_,rfl,rfl,hY,hX9,(by first |exact((hs4.of (q:=fun b=>b<w4.heap.size) (fun b hl _=>hl)).bl ((Bl.refl w4).alloc _)).keep (r:=fun _=>True) (Nat.le_of_eq hB9.size.symm) (fun _ _=>trivial) (fun b hb _=>hB9.same b (Nat.ne_of_lt hb))|exact hs4.keep (r:=fun _=>True) (Nat.le_of_eq hB9.size.symm) (fun _ _=>trivial) fun b (h:_<=b) _=>hB9.same b (by have h1:=hb1.size;have h3:=hb3.size;simp only[aR] at h h1 h3⊢;omega))⟩
  rotate_left 3
  focus
   have HSZ:=aB hY.sz;refine aL rfl (fun K hK=>?_);go_simp;refine hK.o _ _ ((hY.call ((Bl.refl _).alloc _))) ?_;clear hY hK K;intro hY;have HA8:=aB (new_of hY);refine aL rfl (fun K hK=>?_);go_simp;(refine(column20_any [116] [97] _).mono ?_;rintro e w1 ⟨rfl,hb1⟩);go_wp2_with fail;refine hK.o _ _ ((by first |exact hY.call hb1|exact hY.call hb3|exact hY.call hb4|exact hY.but hB9 HSZ.o)) ?_;clear hY hK K;intro hY;refine aL rfl (fun K hK=>?_);go_simp;(refine(plus20_any (c20E [116] [97]) o20E _ _ _ (readsE_nil _ _ _ _ _ _) (readsE_nil _ _ _ _ _ _)).mono ?_;rintro e w3 ⟨⟨g3,rfl,hr3⟩,hb3⟩);go_wp2_with fail;refine hK.o _ _ ((by first |exact hY.call hb1|exact hY.call hb3|exact hY.call hb4|exact hY.but hB9 HSZ.o)) ?_;clear hY hK K;intro hY;refine aL rfl (fun K hK=>?_);go_simp;(refine(HBN.o _ _ bq1 (by decide) (c2c _ (by rfl)).2 _ _ hY (by first |exact⟨_,rfl,hr3⟩|exact⟨_,rfl,hr3.bl ((Bl.refl _).alloc _)⟩)).mono ?_;rintro e w4 ⟨⟨v4,rfl,s4,rfl,hs4⟩,hb4⟩;obtain⟨a4,c4,rfl,-⟩:=id hs4.shape);go_wp2_with fail;refine hK.o _ _ ((by first |exact hY.call hb1|exact hY.call hb3|exact hY.call hb4|exact hY.but hB9 HSZ.o)) ?_;clear hY hK K;intro hY;iterate 3 (refine aI rfl (by rfl) (by intro w hSw;(try dsimp only at hSw);obtain⟨⟨e0,e1,e2,e3,e4,e5,e6,e7⟩,-⟩:=eight hSw.o;go_simp;(try(first |with_reducible rfl|rfl))) ?_;(try simp only[aK,aA,aD,aF]))
   refine aL rfl (fun K hK=>?_);rw[if_pos (by rfl)];refine bC rfl rfl rfl ([.int .i64 3,.int .i64 2,.int .i64 0,.int .i64 0,S [],.int .i64 0,.int .i64 1,S [],.slice a4 2 c4]) (by first |exact HA8.o|exact keep_b HA8.o hb4|exact keep_b (keep_b HA8.o hb3) hb4|exact keep_b (keep_b (keep_b HA8.o hb1) hb3) hb4) rfl rfl bdInfo rfl ?_;intro w9 hB9 hX9;refine hK.o _ _ ((by first |exact hY.call hB91|exact hY.call hB93|exact hY.call hB94|exact hY.but hB9 HSZ.o)) ?_;clear hY hK K;intro hY;(try simp only[aK])
   refine aI rfl (by rfl) (by intro w hSw;(try dsimp only at hSw);obtain⟨⟨e0,e1,e2,e3,e4,e5,e6,e7⟩,-⟩:=eight hSw.o;go_simp;(try(first |with_reducible rfl|rfl))) ?_;(try simp only[aK,aA,aD,aF])
   refine fO (bF ?_);go_wp2
   go_meet
   case rel=>exact⟨_,_,rfl,rfl,hY,hX9,(by first |exact((hs4.of (q:=fun b=>b<w4.heap.size) (fun b hl _=>hl)).bl ((Bl.refl w4).alloc _)).keep (r:=fun _=>True) (Nat.le_of_eq hB9.size.symm) (fun _ _=>trivial) (fun b hb _=>hB9.same b (Nat.ne_of_lt hb))|exact hs4.keep (r:=fun _=>True) (Nat.le_of_eq hB9.size.symm) (fun _ _=>trivial) fun b (h:_<=b) _=>hB9.same b (by have h1:=hb1.size;have h3:=hb3.size;simp only[aR] at h h1 h3⊢;omega))⟩
 case rest=>
 clear HR0;obtain⟨A,sA,rfl,rfl,HK⟩:=hcut;have HA:=aB (show ∃a c,sA= .slice a 2 c from by obtain⟨a,c,e,-⟩:=HK.o.d.shape;exact⟨a,c,e⟩);obtain⟨aA,cA,rfl⟩:=HA.o;obtain⟨a0,a1,a2,a3,a4,a5,a6,a7,a8⟩:=nine HK.o.a;obtain⟨r0,r1,r2⟩:=three3 HK.o.r.r;obtain⟨x0,x1,x2⟩:=three3 HK.o.r.x;obtain⟨v0,v1,v2⟩:=three3 HK.o.r.v;simp only[Bd.k,Bd.t,Bd.v,Bd.p,Bd.o,Bd.n] at a0 a1 a2 a3 a4 a5 a6 a7;have HEV:Hid (∀(B:World) (g:Nat),Bl wc B->B.heap[g]?=some (.cells #[.int .i64 2,.int .i64 4,S [],.int .i64 3,.int .i64 0,S [120],.int .i64 2,.int .i64 5,S []] 26 (0,0))->Calls Tryz.prog 21 #[BdV 3 2 (0,0,[]) 0 1 [] (.slice aA 2 cA),.slice (some ⟨g,0,none⟩) 3 3] B fun e w'=>e= .returned (.tuple #[VlV (2,5,[]),.int .i64 0])/\Bl B w'):=fun B g hb hg=>by
  have h:=bEval_any aD20 [(2,4,[]),(3,0,[120]),(2,5,[])] (by decide) (by simp[intsD,intssD,I64]) (by decide) (by intro v hv;simp only[dD,List.not_mem_nil,or_false] at hv;rcases hv with rfl|rfl|rfl<;>(unfold IntV I64;decide)) B _ (some ⟨g,0,none⟩) 3 ⟨_,rfl,HK.o.d.bl hb⟩ (row_three hg);rw[ev20] at h;exact h
 have HB6:=aB ((Bl.refl wc).alloc (.cells #[.int .i64 2,.int .i64 4,S [],.int .i64 3,.int .i64 0,S [120],.int .i64 2,.int .i64 5,S []] 26));go_wp2_with fail;refine(HEV.o _ _ HB6.o (aN wc _)).mono ?_;rintro e w6 ⟨rfl,hb6⟩;have HK6:=aB ((HK.o.call (HB6.o.call hb6)).call ((Bl.refl w6).alloc (cV20 2 5 [])));have HV6:=aB (aN w6 (cV20 2 5 []));clear hb6 HB6 HEV a0 a1 a2 a3 a4 a5 a6 a7 a8 r0 r1 r2 x0 x1 x2 v0 v1 v2;go_wp2_with fail;refine(column20_any [] [97] _).mono ?_;rintro e w7 ⟨rfl,hb7⟩;have HK7:=aB (HK6.o.call hb7);have HV7:=aB (keep_b HV6.o hb7);clear hb7 HK6 HV6;go_wp2_with fail;refine(HBN.o _ _ bq2 (by decide) (c2c _ (by rfl)).2 _ _ HK7.o.r (readsE_nil _ _ _ _ _ _)).mono ?_;rintro e w8 ⟨⟨v8,rfl,s8,rfl,hs8⟩,hb8⟩;obtain⟨a8,c8,rfl,-⟩:=hs8.shape;have HK8:=aB ((HK7.o.call hb8).call ((Bl.refl w8).alloc (.cells (cells9 zeroD (.slice a8 0 c8)).toArray 30)));have HV8:=aB (keep_b (keep_b HV7.o hb8) ((Bl.refl w8).alloc (.cells (cells9 zeroD (.slice a8 0 c8)).toArray 30)));clear hb8 HK7 HV7;go_wp2_with fail;refine(column20_any [] [99] _).mono ?_;rintro e w9 ⟨rfl,hb9⟩;have HK9:=aB (HK8.o.call hb9);have HV9:=aB (keep_b HV8.o hb9);clear hb9 HK8 HV8 hs8;go_wp2_with fail;refine(HBN.o _ _ bq3 (by decide) (c2c _ (by rfl)).2 _ _ HK9.o.r (readsE_nil _ _ _ _ _ _)).mono ?_;rintro e w10 ⟨⟨v10,rfl,s10,rfl,hs10⟩,hb10⟩;obtain⟨a10,c10,rfl,-⟩:=hs10.shape;have HK10:=aB ((HK9.o.call hb10).call ((Bl.refl w10).alloc (.cells (cells9 zeroD (.slice a10 0 c10)).toArray 30)));have HV10:=aB (keep_b (keep_b HV9.o hb10) ((Bl.refl w10).alloc (.cells (cells9 zeroD (.slice a10 0 c10)).toArray 30)));clear hb10 HK9 HV9 hs10
 go_upto_region 9 with fail
 obtain⟨u,hu⟩:∃u,w10.alloc (.cells (cells9 zeroD (.slice a10 0 c10)).toArray 30)=u:=⟨_,rfl⟩
 change Code.wp _ _ _ _ (w10.alloc (.cells (cells9 zeroD (.slice a10 0 c10)).toArray 30));rw[hu] at HK10 HV10⊢;clear hu
 go_cut [16,17] from 64 to 71 (fun p16 e17 wc=>∃g:Nat,p16= .pointer (some ⟨g,0,none⟩)/\e17= .int .i64 120/\Hid (Bl u wc))
 case first=>
  refine wp_region_noPanic (bM (fun B=>Bl u B) ((.take 0 (.take 2 (.two 1 8 (.two 3 8 (.two 4 8 (.take 5 (.take 6 (.take 7 (.one 8 (.one 9 (.take 10 .done)))))) (.one 4 (.take 5 (.take 6 (.take 7 (.one 9 (.take 10 .done))))))) (.one 3 (.one 4 (.take 5 (.take 6 (.take 7 (.one 9 (.take 10 .done)))))))) (.one 1 (.one 3 (.one 4 (.take 5 (.take 6 (.take 7 (.one 9 (.take 10 .done)))))))))))) (by kernel_rfl) (by kernel_rfl) (by kernel_rfl) (fun _ _ _ _ _ h=>h) (((Bl.refl u).drew)) ?_);intro wd HWD hY;iterate 2 (refine aI rfl (by rfl) (by intro w hSw;(try dsimp only at hSw);obtain⟨⟨e0,e1,e2,e3,e4,e5,e6,e7⟩,-⟩:=eight (HK10.o.call hSw).r.o;go_simp;(try(first |with_reducible rfl|rfl))) ?_;(try simp only[aK,aA,aD,aF]))
  refine sZ ?_ ?_
  focus
   refine aL rfl (fun K hK=>?_);go_simp;(refine(column20_any [] [98] _).mono ?_;rintro e w1 ⟨rfl,hb1⟩);go_wp2_with fail;refine hK.o _ _ ((by first |exact hY.call hb1|exact hY.call hb3|exact hY.call hb4|exact hB9.bl hY HSZ.o)) ?_;clear hY hK K;intro hY;refine sZ ?_ ?_
   focus
    refine aL rfl (fun K hK=>?_);go_simp;(refine(plus20_any (c20E [] [98]) o20E _ _ _ (readsE_nil _ _ _ _ _ _) (readsE_nil _ _ _ _ _ _)).mono ?_;rintro e w3 ⟨⟨g3,rfl,hr3⟩,hb3⟩);go_wp2_with fail;refine hK.o _ _ ((by first |exact hY.call hb1|exact hY.call hb3|exact hY.call hb4|exact hB9.bl hY HSZ.o)) ?_;clear hY hK K;intro hY;refine sZ ?_ ?_
    focus
     refine aL rfl (fun K hK=>?_);go_simp;(refine(HBN.o _ _ bq4 (by decide) (c2c _ (by rfl)).2 _ _ (HK10.o.call hY).r (by first |exact⟨_,rfl,hr3⟩|exact⟨_,rfl,hr3.bl ((Bl.refl _).alloc _)⟩)).mono ?_;rintro e w4 ⟨⟨v4,rfl,s4,rfl,hs4⟩,hb4⟩;obtain⟨a4,c4,rfl,-⟩:=id hs4.shape);go_wp2_with fail;refine hK.o _ _ ((by first |exact hY.call hb1|exact hY.call hb3|exact hY.call hb4|exact hB9.bl hY HSZ.o)) ?_;clear hY hK K;intro hY;iterate 3 (refine aI rfl (by rfl) (by intro w hSw;(try dsimp only at hSw);obtain⟨⟨e0,e1,e2,e3,e4,e5,e6,e7⟩,-⟩:=eight (HK10.o.call hSw).r.o;go_simp;(try(first |with_reducible rfl|rfl))) ?_;(try simp only[aK,aA,aD,aF]))
     have HSZ:=aB hY.size;refine aL rfl (fun K hK=>?_);go_simp;refine hK.o _ _ ((hY.call ((Bl.refl _).alloc _))) ?_;clear hY hK K;intro hY;have HA8:=aB (new_bl hY);refine aL rfl (fun K hK=>?_);rw[if_pos (by rfl)];refine bC rfl rfl rfl ([.int .i64 0,.int .i64 0,.int .i64 0,.int .i64 0,S [],.int .i64 0,.int .i64 0,S [],.slice a4 0 c4]) (by first |exact HA8.o|exact keep_b HA8.o hb4|exact keep_b (keep_b HA8.o hb3) hb4|exact keep_b (keep_b (keep_b HA8.o hb1) hb3) hb4) rfl rfl bdInfo rfl ?_;intro w9 hB9 hX9;refine hK.o _ _ ((by first |exact hY.call hB91|exact hY.call hB93|exact hY.call hB94|exact hB9.bl hY HSZ.o)) ?_;clear hY hK K;intro hY;(try simp only[aK])
     refine aI rfl (by rfl) (by intro w hSw;(try dsimp only at hSw);obtain⟨⟨e0,e1,e2,e3,e4,e5,e6,e7⟩,-⟩:=eight (HK10.o.call hSw).r.o;go_simp;(try(first |with_reducible rfl|rfl))) ?_;(try simp only[aK,aA,aD,aF])
     refine fO (bF ?_);go_wp2
     go_meet
     case rel=>exact⟨_,rfl,rfl,hY⟩
    rotate_left 1
    focus
     have HSZ:=aB hY.size;refine aL rfl (fun K hK=>?_);go_simp;refine hK.o _ _ ((hY.call ((Bl.refl _).alloc _))) ?_;clear hY hK K;intro hY;have HA8:=aB (new_bl hY);refine aL rfl (fun K hK=>?_);go_simp;(refine(HBN.o _ _ bq4 (by decide) (c2c _ (by rfl)).2 _ _ (HK10.o.call hY).r (by first |exact⟨_,rfl,hr3⟩|exact⟨_,rfl,hr3.bl ((Bl.refl _).alloc _)⟩)).mono ?_;rintro e w4 ⟨⟨v4,rfl,s4,rfl,hs4⟩,hb4⟩;obtain⟨a4,c4,rfl,-⟩:=id hs4.shape);go_wp2_with fail;refine hK.o _ _ ((by first |exact hY.call hb1|exact hY.call hb3|exact hY.call hb4|exact hB9.bl hY HSZ.o)) ?_;clear hY hK K;intro hY;iterate 3 (refine aI rfl (by rfl) (by intro w hSw;(try dsimp only at hSw);obtain⟨⟨e0,e1,e2,e3,e4,e5,e6,e7⟩,-⟩:=eight (HK10.o.call hSw).r.o;go_simp;(try(first |with_reducible rfl|rfl))) ?_;(try simp only[aK,aA,aD,aF]))
     refine aL rfl (fun K hK=>?_);rw[if_pos (by rfl)];refine bC rfl rfl rfl ([.int .i64 0,.int .i64 0,.int .i64 0,.int .i64 0,S [],.int .i64 0,.int .i64 0,S [],.slice a4 0 c4]) (by first |exact HA8.o|exact keep_b HA8.o hb4|exact keep_b (keep_b HA8.o hb3) hb4|exact keep_b (keep_b (keep_b HA8.o hb1) hb3) hb4) rfl rfl bdInfo rfl ?_;intro w9 hB9 hX9;refine hK.o _ _ ((by first |exact hY.call hB91|exact hY.call hB93|exact hY.call hB94|exact hB9.bl hY HSZ.o)) ?_;clear hY hK K;intro hY;(try simp only[aK])
     refine aI rfl (by rfl) (by intro w hSw;(try dsimp only at hSw);obtain⟨⟨e0,e1,e2,e3,e4,e5,e6,e7⟩,-⟩:=eight (HK10.o.call hSw).r.o;go_simp;(try(first |with_reducible rfl|rfl))) ?_;(try simp only[aK,aA,aD,aF])
     refine fO (bF ?_);go_wp2
     go_meet
     case rel=>exact⟨_,rfl,rfl,hY⟩
   rotate_left 2
   focus
    have HSZ:=aB hY.size;refine aL rfl (fun K hK=>?_);go_simp;refine hK.o _ _ ((hY.call ((Bl.refl _).alloc _))) ?_;clear hY hK K;intro hY;have HA8:=aB (new_bl hY);refine aL rfl (fun K hK=>?_);go_simp;(refine(plus20_any (c20E [] [98]) o20E _ _ _ (readsE_nil _ _ _ _ _ _) (readsE_nil _ _ _ _ _ _)).mono ?_;rintro e w3 ⟨⟨g3,rfl,hr3⟩,hb3⟩);go_wp2_with fail;refine hK.o _ _ ((by first |exact hY.call hb1|exact hY.call hb3|exact hY.call hb4|exact hB9.bl hY HSZ.o)) ?_;clear hY hK K;intro hY;refine aL rfl (fun K hK=>?_);go_simp;(refine(HBN.o _ _ bq4 (by decide) (c2c _ (by rfl)).2 _ _ (HK10.o.call hY).r (by first |exact⟨_,rfl,hr3⟩|exact⟨_,rfl,hr3.bl ((Bl.refl _).alloc _)⟩)).mono ?_;rintro e w4 ⟨⟨v4,rfl,s4,rfl,hs4⟩,hb4⟩;obtain⟨a4,c4,rfl,-⟩:=id hs4.shape);go_wp2_with fail;refine hK.o _ _ ((by first |exact hY.call hb1|exact hY.call hb3|exact hY.call hb4|exact hB9.bl hY HSZ.o)) ?_;clear hY hK K;intro hY;iterate 3 (refine aI rfl (by rfl) (by intro w hSw;(try dsimp only at hSw);obtain⟨⟨e0,e1,e2,e3,e4,e5,e6,e7⟩,-⟩:=eight (HK10.o.call hSw).r.o;go_simp;(try(first |with_reducible rfl|rfl))) ?_;(try simp only[aK,aA,aD,aF]))
    refine aL rfl (fun K hK=>?_);rw[if_pos (by rfl)];refine bC rfl rfl rfl ([.int .i64 0,.int .i64 0,.int .i64 0,.int .i64 0,S [],.int .i64 0,.int .i64 0,S [],.slice a4 0 c4]) (by first |exact HA8.o|exact keep_b HA8.o hb4|exact keep_b (keep_b HA8.o hb3) hb4|exact keep_b (keep_b (keep_b HA8.o hb1) hb3) hb4) rfl rfl bdInfo rfl ?_;intro w9 hB9 hX9;refine hK.o _ _ ((by first |exact hY.call hB91|exact hY.call hB93|exact hY.call hB94|exact hB9.bl hY HSZ.o)) ?_;clear hY hK K;intro hY;(try simp only[aK])
    refine aI rfl (by rfl) (by intro w hSw;(try dsimp only at hSw);obtain⟨⟨e0,e1,e2,e3,e4,e5,e6,e7⟩,-⟩:=eight (HK10.o.call hSw).r.o;go_simp;(try(first |with_reducible rfl|rfl))) ?_;(try simp only[aK,aA,aD,aF])
    refine fO (bF ?_);go_wp2
    go_meet
    case rel=>exact⟨_,rfl,rfl,hY⟩
  rotate_left 3
  focus
   have HSZ:=aB hY.size;refine aL rfl (fun K hK=>?_);go_simp;refine hK.o _ _ ((hY.call ((Bl.refl _).alloc _))) ?_;clear hY hK K;intro hY;have HA8:=aB (new_bl hY);refine aL rfl (fun K hK=>?_);go_simp;(refine(column20_any [] [98] _).mono ?_;rintro e w1 ⟨rfl,hb1⟩);go_wp2_with fail;refine hK.o _ _ ((by first |exact hY.call hb1|exact hY.call hb3|exact hY.call hb4|exact hB9.bl hY HSZ.o)) ?_;clear hY hK K;intro hY;refine aL rfl (fun K hK=>?_);go_simp;(refine(plus20_any (c20E [] [98]) o20E _ _ _ (readsE_nil _ _ _ _ _ _) (readsE_nil _ _ _ _ _ _)).mono ?_;rintro e w3 ⟨⟨g3,rfl,hr3⟩,hb3⟩);go_wp2_with fail;refine hK.o _ _ ((by first |exact hY.call hb1|exact hY.call hb3|exact hY.call hb4|exact hB9.bl hY HSZ.o)) ?_;clear hY hK K;intro hY;refine aL rfl (fun K hK=>?_);go_simp;(refine(HBN.o _ _ bq4 (by decide) (c2c _ (by rfl)).2 _ _ (HK10.o.call hY).r (by first |exact⟨_,rfl,hr3⟩|exact⟨_,rfl,hr3.bl ((Bl.refl _).alloc _)⟩)).mono ?_;rintro e w4 ⟨⟨v4,rfl,s4,rfl,hs4⟩,hb4⟩;obtain⟨a4,c4,rfl,-⟩:=id hs4.shape);go_wp2_with fail;refine hK.o _ _ ((by first |exact hY.call hb1|exact hY.call hb3|exact hY.call hb4|exact hB9.bl hY HSZ.o)) ?_;clear hY hK K;intro hY;iterate 3 (refine aI rfl (by rfl) (by intro w hSw;(try dsimp only at hSw);obtain⟨⟨e0,e1,e2,e3,e4,e5,e6,e7⟩,-⟩:=eight (HK10.o.call hSw).r.o;go_simp;(try(first |with_reducible rfl|rfl))) ?_;(try simp only[aK,aA,aD,aF]))
   refine aL rfl (fun K hK=>?_);rw[if_pos (by rfl)];refine bC rfl rfl rfl ([.int .i64 0,.int .i64 0,.int .i64 0,.int .i64 0,S [],.int .i64 0,.int .i64 0,S [],.slice a4 0 c4]) (by first |exact HA8.o|exact keep_b HA8.o hb4|exact keep_b (keep_b HA8.o hb3) hb4|exact keep_b (keep_b (keep_b HA8.o hb1) hb3) hb4) rfl rfl bdInfo rfl ?_;intro w9 hB9 hX9;refine hK.o _ _ ((by first |exact hY.call hB91|exact hY.call hB93|exact hY.call hB94|exact hB9.bl hY HSZ.o)) ?_;clear hY hK K;intro hY;(try simp only[aK])
   refine aI rfl (by rfl) (by intro w hSw;(try dsimp only at hSw);obtain⟨⟨e0,e1,e2,e3,e4,e5,e6,e7⟩,-⟩:=eight (HK10.o.call hSw).r.o;go_simp;(try(first |with_reducible rfl|rfl))) ?_;(try simp only[aK,aA,aD,aF])
   refine fO (bF ?_);go_wp2
   go_meet
   case rel=>exact⟨_,rfl,rfl,hY⟩
 case rest=>
 obtain⟨g16,rfl,rfl,hub⟩:=hcut;have HK11:=aB (HK10.o.call hub.o);have HV11:=aB (keep_b HV10.o hub.o);clear hub HK10 HV10;go_wp2_with fail;refine(count20_any _).mono ?_;rintro e w12 ⟨rfl,hb12⟩;have HB12:=aB ((Bl.refl w12).alloc (.cells #[.int .i64 5,.int .i64 0,.int .i64 0,S [],S [],S gX,.int .i64 0,.slice none 0 0] 47));have HK12:=aB ((HK11.o.call hb12).call HB12.o);have HV12:=aB (keep_b (keep_b HV11.o hb12) HB12.o);clear hb12 HK11 HV11;go_wp2_with fail;refine(HBN.o (s20E c1m [s20E gX []]) _ bq5 (by decide) (c2c _ (by rfl)).2 _ _ HK12.o.r ⟨_,rfl,c6a (x:=s20E gX []) 1 (aN w12 _) (readsL_nil _)⟩).mono ?_;rintro e w13 ⟨⟨v13,rfl,s13,rfl,hs13⟩,hb13⟩;obtain⟨a13,c13,rfl,-⟩:=hs13.shape;have HB13:=aB ((Bl.refl w13).alloc (.cells (cells9 zeroD (.slice a13 0 c13)).toArray 30));have HK13:=aB ((HK12.o.call hb13).call HB13.o);have HV13:=aB (keep_b (keep_b HV12.o hb13) HB13.o);clear hb13 HK12 HV12 hs13 HB12;go_wp2_with fail;refine(column20_any [116] [97] _).mono ?_;rintro e w14 ⟨rfl,hb14⟩;have HB14:=aB ((Bl.refl w14).alloc (.cells #[.int .i64 2,.int .i64 0,.int .i64 0,S [],S [116],S [97],.int .i64 0,.slice none 0 0] 47));have HX14:=aB (aN w14 (.cells #[.int .i64 2,.int .i64 0,.int .i64 0,S [],S [116],S [97],.int .i64 0,.slice none 0 0] 47));have HK14:=aB ((HK13.o.call hb14).call HB14.o);have HV14:=aB (keep_b (keep_b HV13.o hb14) HB14.o);clear hb14 HK13 HV13 HB13;go_wp2_with fail;refine(column20_any [] [98] _).mono ?_;rintro e w15 ⟨rfl,hb15⟩;have HB15:=aB ((Bl.refl w15).alloc (.cells #[.int .i64 2,.int .i64 0,.int .i64 0,S [],S [],S [98],.int .i64 0,.slice none 0 0] 47));have HX15:=aB (aN w15 (.cells #[.int .i64 2,.int .i64 0,.int .i64 0,S [],S [],S [98],.int .i64 0,.slice none 0 0] 47));have HX16:=aB (keep_b (keep_b HX14.o hb15) HB15.o);have HK15:=aB ((HK14.o.call hb15).call HB15.o);have HV15:=aB (keep_b (keep_b HV14.o hb15) HB15.o);clear hb15 HK14 HV14 HB14 HX14;go_wp2_with fail;refine(plus20_any (s20E c1m [c20E [116] [97]]) (s20E gX [c20E [] [98]]) _ _ _ ⟨_,rfl,c6a (x:=c20E [116] [97]) 1 HX16.o (readsL_nil _)⟩ ⟨_,rfl,c6a (x:=c20E [] [98]) 1 HX15.o (readsL_nil _)⟩).mono ?_;rintro e w16 ⟨⟨g16',rfl,hr16⟩,hb16⟩;have HK16:=aB (HK15.o.call hb16);have HV16:=aB (keep_b HV15.o hb16);have HR16:=aB hr16;clear hb16 HK15 HV15 HX15 HX16 HB15 hr16;go_wp2_with fail;refine(HBN.o _ _ bq6 (by decide) (c2c _ (by rfl)).2 _ _ HK16.o.r ⟨_,rfl,HR16.o⟩).mono ?_;rintro e w17 ⟨⟨v17,rfl,s17,rfl,hs17⟩,hb17⟩;obtain⟨a17,c17,rfl,-⟩:=id hs17.shape;have HB17:=aB ((Bl.refl w17).alloc (.cells (cells9 bD20 (.slice a17 2 c17)).toArray 30));have HA17:=aB (aN w17 (.cells (cells9 bD20 (.slice a17 2 c17)).toArray 30));have HD17:=aB (show ReadsDL (fun _=>True) (w17.alloc (.cells (cells9 bD20 (.slice a17 2 c17)).toArray 30)) (.slice a17 2 c17) bD20.args from(hs17.keep (r:=fun _=>True) (aH _) (fun _ _=>trivial) (fun _ _ _=>rfl)).bl HB17.o);have HK17:=aB ((HK16.o.call hb17).call HB17.o);have HV17:=aB (keep_b (keep_b HV16.o hb17) HB17.o);clear hb17 HK16 HV16 HR16 hs17 HBN
 go_upto_region 12 with fail
 obtain⟨u2,hu2⟩:∃u2,w17.alloc (.cells (cells9 bD20 (.slice a17 2 c17)).toArray 30)=u2:=⟨_,rfl⟩
 change Code.wp _ _ _ _ (w17.alloc (.cells (cells9 bD20 (.slice a17 2 c17)).toArray 30));rw[hu2] at HK17 HV17 HA17 HD17⊢;obtain⟨n17,hn17⟩:∃n,w17.heap.size=n:=⟨_,rfl⟩
 rw[hn17] at HA17⊢;clear hu2 hn17 HB17;obtain⟨b0,b1,b2,b3,b4,b5,b6,b7,b8⟩:=nine HA17.o;obtain⟨⟨o0,o1,o2,o3,o4,o5,o6,o7⟩,-⟩:=eight HK17.o.r.o;obtain⟨t0,t1,t2⟩:=three3 HK17.o.r.t;obtain⟨x0,x1,x2⟩:=three3 HK17.o.r.x;obtain⟨z0,z1,z2⟩:=three3 HK17.o.r.z;simp only[Bd.k,Bd.t,Bd.v,Bd.p,Bd.o,Bd.n] at b0 b1 b2 b3 b4 b5 b6 b7;have hsz:=HK17.o.r.sz;have hq2:W.heap.size+1+1<u2.heap.size:=(by omega);have hq3:W.heap.size+1+1+1<u2.heap.size:=(by omega);have hq4:W.heap.size+1+1+1+1<u2.heap.size:=(by omega);have hq5:W.heap.size+2<u2.heap.size:=(by omega);have hq6:W.heap.size+3<u2.heap.size:=(by omega);have hq7:W.heap.size+4<u2.heap.size:=(by omega);have HG20:Hid (∀(B:World) (g1 g2 g3:Nat),Bl u2 B->B.heap[g1]?=some (.cells #[.int .i64 2,.int .i64 1,S [],.int .i64 0,.int .i64 0,S [],.int .i64 2,.int .i64 0,S []] 26 (0,0))->B.heap[g2]?=some (.cells #[.int .i64 2,.int .i64 2,S [],.int .i64 3,.int .i64 0,S [120],.int .i64 2,.int .i64 0,S []] 26 (0,0))->B.heap[g3]?=some (.cells #[.slice (some ⟨g1,0,none⟩) 3 3,.slice (some ⟨g2,0,none⟩) 3 3] 36 (0,0))->
   Calls Tryz.prog 8 #[BdV 3 2 (0,0,[]) 0 1 [] (.slice a17 2 c17),.slice (some ⟨g3,0,none⟩) 2 2] B fun e w'=>e= .returned (.tuple #[VlV (2,4,[]),.int .i64 0])/\Bl B w'):=fun B g1 g2 g3 hb h1 h2 h3=>by
  have h:=bGroup_any bD20 [[(2,1,[]),(0,0,[]),(2,0,[])],[(2,2,[]),(3,0,[120]),(2,0,[])]] (by decide) (by simp[intsD,intssD,I64]) (by decide) (by intro r hr;simp only[dD,List.not_mem_nil,or_false] at hr;rcases hr with rfl|rfl<;>decide) (by
   intro r hr v hv;simp only[dD,List.not_mem_nil,or_false] at hr;rcases hr with rfl|rfl<;>(simp only[dD,List.not_mem_nil,or_false] at hv;rcases hv with rfl|rfl|rfl<;>(unfold IntV I64;decide))) B _ (some ⟨g3,0,none⟩) 2 ⟨_,rfl,HD17.o.bl hb⟩ (rows_two h3 (row_three h1) (row_three h2))
  rw[gr20] at h;exact h
 go_wp2_with fail;refine(HG20.o _ u2.heap.size (u2.heap.size+1) (u2.heap.size+2) ((((Bl.refl u2).alloc _).alloc _).alloc _) (keep_b (keep_b (aN u2 _) ((Bl.refl _).alloc _)) ((Bl.refl _).alloc _)) (keep_b (aV _ _ (by simp)) ((Bl.refl _).alloc _)) (aV _ _ (by simp))).mono ?_;rintro e w19 ⟨rfl,hb19⟩;have hbu:=((((Bl.refl u2).alloc _).alloc _).alloc _).call hb19;have HB20:=aB ((Bl.refl w19).alloc (cV20 2 4 []));have HK20:=aB ((HK17.o.call hbu).call HB20.o);have HV20:=aB (keep_b (keep_b HV17.o hbu) HB20.o);have HN20:=aB (aN w19 (cV20 2 4 []));clear hbu hb19 HG20 HK17 HV17 HA17 HD17 hsz hq2 hq3 hq4 hq5 hq6 hq7 b0 b1 b2 b3 b4 b5 b6 b7 b8 o0 o1 o2 o3 o4 o5 o6 o7 t0 t1 t2 x0 x1 x2 z0 z1 z2
 go_upto_region 13 with fail
 obtain⟨u3,hu3⟩:∃u3,w19.alloc (cV20 2 4 [])=u3:=⟨_,rfl⟩
 change Code.wp _ _ _ _ (w19.alloc (cV20 2 4 []));rw[hu3] at HK20 HV20 HN20⊢;obtain⟨n22,hn22⟩:∃n,w19.heap.size=n:=⟨_,rfl⟩
 rw[hn22] at HN20⊢;clear hu3 hn22 HB20;obtain⟨-,a1,-,-,-,-,-,-,-⟩:=nine HK20.o.a;obtain⟨r0,r1,r2⟩:=three3 HK20.o.r.r;obtain⟨v0,v1,v2⟩:=three3 HK20.o.r.v;obtain⟨q0,q1,q2⟩:=three3 HV20.o;obtain⟨m0,m1,m2⟩:=three3 HN20.o;simp only[Bd.t] at a1;go_wp2_with fail
 (with_reducible refine(num20_any _ _).mono ?_)
 rintro e w' ⟨rfl,rfl⟩;go_wp2_with fail
 (with_reducible refine(num20_any _ _).mono ?_)
 rintro e w' ⟨rfl,rfl⟩;go_wp2_with fail
 (with_reducible refine(num20_any _ _).mono ?_)
 rintro e w' ⟨rfl,rfl⟩;go_wp2_with fail
 (with_reducible refine(num20_any _ _).mono ?_)
 rintro e w' ⟨rfl,rfl⟩;go_wp2_with fail
 (with_reducible refine(num20_any _ _).mono ?_)
 rintro e w' ⟨rfl,rfl⟩;go_wp2_with fail
 (with_reducible refine(num20_any _ _).mono ?_)
 rintro e w' ⟨rfl,rfl⟩;go_wp2_with fail
 (with_reducible refine(num20_any _ _).mono ?_)
 rintro e w' ⟨rfl,rfl⟩;go_wp2_with fail
 (with_reducible refine(num20_any _ _).mono ?_)
 rintro e w' ⟨rfl,rfl⟩;go_wp2;go_ret;exact⟨rfl,HK20.o.r.bl⟩
end
end Go.Proofs.YtkimpcmkminffaaGreatDoor
