/- Texts beside the shared ones. -/
import Derived.Test.YtfkekkgfmhcanaaGreatDoorTS
import Derived.Test.YtfkekkgfmhcanaaGreatDoorTA
import Derived.Test.YtfkekkgfmhcanaaGreatDoorTB
import Derived.Test.YtfkekkgfmhcanaaGreatDoorTC
import Derived.Test.YtfkekkgfmhcanaaGreatDoorTD
import Derived.Test.YtfkekkgfmhcanaaGreatDoorTE
import Derived.Test.YtfkekkgfmhcanaaGreatDoorTF
import Derived.Test.YtfkekkgfmhcanaaGreatDoorTG
import Derived.Test.YtfkekkgfmhcanaaGreatDoorTH
import Derived.Test.YtfkekkgfmhcanaaGreatDoorTI
import Derived.Test.YtfkekkgfmhcanaaGreatDoorTJ
import Derived.Deep.QuietTactic
import Derived.BigQuiet
import Derived.BigRegion
import Derived.RegionTactic
namespace Go.Proofs.YtfkekkgfmhcanaaGreatDoor
open Go.RowKit Go.Shelf
open _root_.Go.Addr renaming add->dY
open _root_.Array renaming getElem?_eq_some_iff->aC
open _root_.Go.RowKit.Below renaming grown->iL
open _root_.Bool renaming and_eq_true->aQ
open _root_.Go.Lib renaming cell_of_heap->aG,hid->aB
open _root_.List renaming eq_nil_of_length_eq_zero->lM,getElem_cons_zero->jB,getElem_mem->dS,length->lV,length_map->mD,length_nil->bL,map_append->kW,take_of_length_le->jS
open _root_.Nat renaming zero_le->dL
open _root_.Go.World renaming block_lt_of_cell?->bB,ownsRow_nil->d2l
set_option maxRecDepth 100000
set_option maxHeartbeats 16000000
section
theorem c7j(s:List UInt8)(x:List UInt8):∀l:List (List UInt8),l≠[]->jR s (l++[x])=jR s l++s++x
 |[],h=>absurd rfl h
 |[y],_=>by simp[jR]
 |y::z::r,_=>by
  have h:=c7j s x (z::r) (by simp);show y++s++jR s ((z::r)++[x])=y++s++jR s (z::r)++s++x;rw[h];simp
theorem d0l(s x y:List UInt8):jR s [x,y]=x++s++y:=by simp[jR]
theorem d0q(s x y z:List UInt8):jR s [x,y,z]=x++s++y++s++z:=by simp[jR]
structure d2f(k:Int)(v:Int×Int×List UInt8)(t n:List UInt8)(o:Int)(args:List Ex):Prop where
 right:dV k v t n o args=true
 i64:I64 v.2.1
theorem c8n:∀(N:Nat) (x:Ex),fC x<=N->N<=1000000->eH x=true->Fits x->(eY x).length<=100000000->∀(W:World) (v:Value),eO W x v->Calls Tryz.prog 77 #[v] W fun e w'=>e= .returned (S (eY x))/\Bl W w'
 |0,x,h,_,_,_,_,_,_,_=>by have:=oM x;omega
 |N+1,x,hx,hN,hC,hF,hl,W,v,hv=>by
  obtain⟨sv,rfl,hR⟩:=hv;obtain⟨a,cap,rfl,hc⟩:=hR.shape;have hr:=vF hC;have IH:Hid (∀(y:Ex),y∈x.args->∀(W':World) (v:Value),eO W' y v->Calls Tryz.prog 77 #[v] W' fun e w'=>e= .returned (S (eY y))/\Bl W' w'):=fun y hy W' v hv=>
   c8n N y (by have:=sH hy;omega) (by omega) (a1l hC hy) (by cases hF with |mk _ _ _ _ _ _ _ ha=>exact ha y hy) (by have:=a1e hC hy;omega) W' v hv
  have HLN:Hid (∀y∈x.args,(eY y).length<=100000000):=fun y hy=>(by have:=a1e hC hy;omega);have hlen:x.args.length<=1000000:=(by have:=sG x;omega);have hI:I64 x.v.2.1:=by cases hF with |mk _ _ _ _ _ _ h _=>exact h
  clear hR hF hx;obtain⟨k,⟨v1,v2,v3⟩,t,nm,o,args⟩:=x;have HC:Hid (∀(j:Nat) (h:j<args.length),∃b off s,a=some ⟨b,off,none⟩/\At8 W b (off+j * 8) args[j] s/\gU W s args[j].args):=aB hc
  replace hlen:args.length<=1000000:=hlen
  clear hc;show Calls Tryz.prog 77 #[EV k (v1,v2,v3) t nm o (.slice a args.length cap)] W fun e w'=>e= .returned (S (eY (.mk k (v1,v2,v3) t nm o args)))/\Bl W w';have HR:Hid (d2f k (v1,v2,v3) t nm o args):=⟨hr,hI⟩
  have HT:Hid (eY (.mk k (v1,v2,v3) t nm o args)=uB k (v1,v2,v3) t nm o (args.map eY)):=(by show _=_;simp only[eY,vG]);rw[HT.o];obtain⟨u,hu⟩:∃u,Hid (uB k (v1,v2,v3) t nm o (args.map eY)=u):=⟨_,rfl⟩
  rw[hu.o];have HB0:=aB ((Bl.refl W).alloc (.cells #[.int .i64 k,.int .i64 v1,.int .i64 v2,S v3,S t,S nm,.int .i64 o,.slice a args.length cap] 33));have HX0:=aB (aN W (.cells #[.int .i64 k,.int .i64 v1,.int .i64 v2,S v3,S t,S nm,.int .i64 o,.slice a args.length cap] 33));obtain⟨i0,hi,hz0,hz1,hz2⟩:=a1h;clear hr hC hI HT hl;go_enter Tryz.func77,Tryz.ntmps77;go_wp2_with fail;go_loopw [3,4,5] (fun sv al i wr=>∃(j:Nat) (v0:Value) (z:List UInt8),sv=v0/\al=S z/\j<=args.length/\i= .int .i64 (j:Int)/\z.length<=j * 100000002/\Hid (z=jR [44,32] ((args.map eY).take j))/\Hid (wr.ownsRow (W.heap.size+1) 9 1 v0 j (((args.map eY).take j).map fun s=>S s))/\Hid (Bl W wr)/\
   Hid (wr.heap[W.heap.size]?=some (.cells #[.int .i64 k,.int .i64 v1,.int .i64 v2,S v3,S t,S nm,.int .i64 o,.slice a args.length cap] 33 (0,0)))) (fun _ _ i _=>args.length-(intOf i).toNat)
  case atStart=>exact⟨0,_,[],rfl,rfl,dL _,rfl,by simp,rfl,d2l _ _ _ _,HB0.o,HX0.o⟩
  case round=>
   obtain⟨j,v0,z,rfl,rfl,hj,rfl,hzl,HZ,HO,HB,HX⟩:=hrel;have hzr:=(aC.1 HX.o).1;by_cases hlt:j<args.length
   ·obtain⟨⟨-,-,-,-,-,-,-,c7⟩,-⟩:=eight HX.o;obtain⟨b,off,s,rfl,h8,hr⟩:=HC.o j hlt;have hmem:=dS hlt;obtain⟨asl,cs,rfl,-⟩:=hr.shape;have HRj:=aB (hr.bl HB.o);have HSN:=aB (show(args.map eY).take (j+1)=(args.map eY).take j++[eY args[j]] from by
     rw[a7b _ (by simpa using hlt)];simp)
    have HM:=aB hmem;have hyl:=HLN.o _ hmem;obtain⟨e0,e1,e2,e3,e4,e5,e6,e7⟩:=At8.keep h8 (HB.o.block b (by have:=bB _ _ h8.1;simpa using this));clear h8 hr hmem;generalize args[j]=y at *;obtain⟨k',⟨v1',v2',v3'⟩,t',nm',o',args'⟩:=y;simp only[Ex.k,Ex.v,Ex.t,Ex.n,Ex.o,Ex.args] at e0 e1 e2 e3 e4 e5 e6 e7 HRj;have hlt':(j:Int)<(args.length:Int):=(by omega);go_wp2_with fail;have hRE:eO wr (.mk k' (v1',v2',v3') t' nm' o' args') (EV k' (v1',v2',v3') t' nm' o' (.slice asl args'.length cs)):=⟨_,rfl,HRj.o⟩
    refine(IH.o _ HM.o _ _ hRE).mono ?_;rintro e w1 ⟨rfl,hb1⟩;have HB1:=aB hb1;have HO1:=aB (gY HB1.o HO.o);have HX1:=aB ((HB1.o.block _ hzr).trans HX.o);have hz1':=(aC.1 HX1.o).1;obtain⟨ty,hty⟩:∃ty,Hid (eY (.mk k' (v1',v2',v3') t' nm' o' args')=ty):=⟨_,rfl⟩
    rw[hty.o] at hyl⊢;clear hb1 hRE e0 e1 e2 e3 e4 e5 e6 e7 c7;have HJN:Hid ((if j=0 then ty else z++[44,32]++ty)=jR [44,32] ((args.map eY).take (j+1))):=by
     show _=_;rw[HSN.o,hty.o];by_cases h0:j=0
     ·subst h0;rw[if_pos rfl];simp[jR]
     ·rw[if_neg h0,c7j _ _ _ (by intro h;have:=congrArg lV h;simp only[List.length_take,mD,bL] at this;omega),<-HZ.o]
    by_cases h0:j=0
    ·subst h0;have HZ0:z=[]:=(by have:=HZ.o;simpa[jR] using this);subst HZ0;go_wp2_with (at_builtin;refine wpList_append_own _ rfl _ _ 82 rfl (W.heap.size+1) 9 i0 (S []) 1 16 Tryz.underlying82 hi hz0 hz1 hz2 rfl (by decide) _ _ _ rfl (gY ((Bl.refl w1).alloc _) HO1.o) ⟨w1.heap.size,0,none⟩ 1 1 [S ty] rfl rfl ?c1 ?c2 ?c3 ?c4 ?c5 ?_)
     case c1=>
      intro i u hi
      match i,hi with
      |0,hi=>simp at hi;subst hi;simp[dY]
     case c2=>intro u hu;simp at hu;subst hu;rfl
     case c3=>unfold maxLen;omega
     case c4=>omega
     case c5=>simp;omega
     intro v' w2 hown2 hg2 _;have hlow:=HO1.o.lt;have HB2:=aB (iL ((HB.o.call HB1.o).alloc _) hg2 (by have:=(HB.o.call HB1.o).size;simp;omega) (fun i hi=>by have:=(hlow i hi).1;omega));have HX2:=aB ((hg2.block W.heap.size (by simp;omega) (fun e=>by have:=(hlow _ e.symm).1;omega)).trans ((aW _ _ hz1').trans HX1.o));have HO2:=aB hown2;clear hown2 hg2 hlow;go_wp2;go_roundw
     case rel=>exact⟨1,_,ty,rfl,(by first |rfl|simp[rZ]),by omega,by go_num,by omega,(by show ty=jR [44,32] _;simpa using HJN.o),by rw[HSN.o,hty.o,kW,List.map_take,List.map_map];exact HO2.o,HB2.o,HX2.o⟩
     case measure=>simp[intOf];omega
    ·have h0':(0:Int)<(j:Int):=by omega
     go_wp2_with (at_builtin;refine wpList_append_own _ rfl _ _ 82 rfl (W.heap.size+1) 9 i0 (S []) 1 16 Tryz.underlying82 hi hz0 hz1 hz2 rfl (by decide) _ _ _ rfl (gY ((Bl.refl w1).alloc _) HO1.o) ⟨w1.heap.size,0,none⟩ 1 1 [S ty] rfl rfl ?d1 ?d2 ?d3 ?d4 ?d5 ?_)
     case d1=>
      intro i u hi
      match i,hi with
      |0,hi=>simp at hi;subst hi;simp[dY]
     case d2=>intro u hu;simp at hu;subst hu;rfl
     case d3=>unfold maxLen;omega
     case d4=>omega
     case d5=>simp;omega
     intro v' w2 hown2 hg2 _;have hlow:=HO1.o.lt;have HB2:=aB (iL ((HB.o.call HB1.o).alloc _) hg2 (by have:=(HB.o.call HB1.o).size;simp;omega) (fun i hi=>by have:=(hlow i hi).1;omega));have HX2:=aB ((hg2.block W.heap.size (by simp;omega) (fun e=>by have:=(hlow _ e.symm).1;omega)).trans ((aW _ _ hz1').trans HX1.o));have HO2:=aB hown2;clear hown2 hg2 hlow;go_wp2;go_roundw
     case rel=>exact⟨j+1,_,z++[44,32]++ty,rfl,by simp[rZ],by omega,by go_num,by simp;omega,by have h:=HJN.o;rw[if_neg h0] at h;exact h,by rw[HSN.o,hty.o,kW,List.map_take,List.map_map];exact HO2.o,HB2.o,HX2.o⟩
     case measure=>simp[intOf];omega
   ·obtain rfl:j=args.length:=by omega
    have HS:Hid ((args.map eY=[]/\∃a' d',u3= .slice a' 0 d')\/sW wr u3 (args.map eY)):=by
     have h:=HO.o;rw[jS (by simp)] at h;have h2:wr.ownsRow (W.heap.size+1) 9 1 u3 (args.map eY).length ((args.map eY).map fun s=>S s):=(by rw[mD];exact h);exact b8c h2
    have HZ':Hid (z=jR [44,32] (args.map eY)):=by
     have h:=HZ.o;rw[jS (by simp)] at h;exact h
    have hge:¬((args.length:Int)<(args.length:Int)):=(by omega);have HML:Hid ((args.map eY).length=args.length):=(by show _=_;simp);have HLS:Hid (∀s∈args.map eY,s.length<=100000000):=fun s hs=>by
     obtain⟨y,hy,rfl⟩:=List.mem_map.1 hs;exact HLN.o y hy
    generalize args.map eY=ls at *;obtain⟨⟨e0,e1,e2,e3,e4,e5,e6,e7⟩,-⟩:=eight HX.o;clear HO IH HC hj hlt HZ HLN;rcases xC HR.o.right with rfl|rfl|rfl|rfl|rfl
    ·have HL:=aB (b9q v1 v2 v3 (by
      have h:=HR.o.right;simp only[dV,if_pos,aQ,beq_iff_eq] at h;exact h.1.2) HR.o.i64.1 HR.o.i64.2)
     have HE:Hid (lit v1 v2 v3=u):=(by show _=_;rw[<-hu.o];rfl);go_wp2_with fail;refine(HL.o _).mono ?_;rintro e w1 ⟨rfl,hb1⟩;go_wp2;go_ret;exact⟨by rw[<-HE.o]<;>rfl,HB.o.call hb1⟩
    ·by_cases ht:t=[]
     ·subst ht;have HE:Hid (nm=u):=(by show _=_;rw[<-hu.o];rfl);go_wp2;go_ret;exact⟨by rw[<-HE.o]<;>rfl,HB.o⟩
     ·have hln:t.length<=10000/\nm.length<=10000:=by
       have h:=HR.o.right;simp[dV,ht] at h;exact⟨a6x h.2,a6x h.1.2⟩
      have HE:Hid (t++[46]++nm=u):=(by show _=_;rw[<-hu.o];simp[uB,ht]);have hb:(t==[])=false:=(by simpa using ht);have hb':(t != [])=true:=(by simpa using ht);clear ht;go_wp2;go_ret;exact⟨by rw[<-HE.o];simp[rZ],HB.o⟩
    ·obtain⟨ho1,ho2,hm,-⟩:=a7e HR.o.right;have hls:ls.length=fJ o:=HML.o.trans hm;clear hm;by_cases h14:o<=14
     ·have hmn:=wF ho1 h14;rw[hmn] at hls;obtain⟨x,y,rfl⟩:=c1d hls;have HS3:Hid (sW wr u3 [x,y]):=by
       rcases HS.o with⟨e,-⟩|h
       ·cases e
       ·exact h
      have hlx:=HLS.o x (by simp);have hly:=HLS.o y (by simp);have HE:Hid ([40]++x++[32]++bI o++[32]++y++[41]=u):=(by show _=_;rw[<-hu.o];simp[uB,hmn,mR,d0q]);obtain⟨bs,cps,rfl,-⟩:=id HS3.o;clear hls HML HLS HS;obtain⟨mm,hmm,hb2⟩:∃mm:Int,Hid ((fJ o:Int)=mm)/\(mm==2)=true:=⟨_,rfl,by rw[hmn];rfl⟩
      have hol:=c4j o;have HYI:Hid (∀w,Calls Tryz.prog 145 #[.int .i64 o] w fun e w'=>e= .returned (.agg #[S (bI o),.int .i64 mm,.int .i64 (vM o),.int .i64 (fU o)])/\Bl w w'):=fun w=>(by rw[<-hmm.o];exact a4l o w);go_wp2_with fail;refine(HYI.o _).mono ?_;rintro e w1 ⟨rfl,hb1⟩;have HB1:=aB (HB.o.call hb1);have HX1:=aB ((hb1.block W.heap.size hzr).trans HX.o);have hz1:=(aC.1 HX1.o).1;have HI:=aB (aN w1 (.cells #[S (bI o),.int .i64 mm,.int .i64 (vM o),.int .i64 (fU o)] 182));have HX2:=aB ((aW w1 (.cells #[S (bI o),.int .i64 mm,.int .i64 (vM o),.int .i64 (fU o)] 182) hz1).trans HX1.o);have HB2:=aB (HB1.o.alloc (.cells #[S (bI o),.int .i64 mm,.int .i64 (vM o),.int .i64 (fU o)] 182));have HS2:=aB ((HS3.o.bl hb1).bl ((Bl.refl w1).alloc (.cells #[S (bI o),.int .i64 mm,.int .i64 (vM o),.int .i64 (fU o)] 182)));clear e0 e1 e2 e3 e4 e5 e6 e7 hmn;obtain⟨⟨-,-,-,-,-,-,e6,-⟩,-⟩:=eight HX1.o;go_wp2_with fail;obtain⟨b',cap',eb,-,-,hc⟩:=HS2.o;have c0:=hc 0 (by simp);have c1:_=some (S y):=hc 1 (by simp);have i0:(w1.alloc (.cells #[S (bI o),.int .i64 mm,.int .i64 (vM o),.int .i64 (fU o)] 182)).cell? ⟨w1.heap.size,0,none⟩=some (S (bI o)):=(by rw[aG HI.o];rfl);simp only[jB] at c0;clear hc e6;obtain⟨rfl,rfl⟩:bs=b'/\cps=cap':=by simpa using eb
      go_quiet (fail)
      go_wp2;go_ret;exact⟨by rw[<-HE.o];simp[rZ],HB2.o.call (Bl.drewN _ _)⟩
     ·have hmn:=tV (o:=o) (by omega) ho2;rw[hmn] at hls;obtain⟨x,rfl⟩:=c1e hls;have HS3:Hid (sW wr u3 [x]):=by
       rcases HS.o with⟨e,-⟩|h
       ·cases e
       ·exact h
      have hlx:=HLS.o x (by simp);have hz:z=x:=(by have:=HZ'.o;simpa[jR] using this);subst hz;clear hls HML HLS HS;by_cases h19:19<=o
      ·have HE:Hid (bI o++[40]++z++[41]=u):=by
        show _=_;have h':o=19\/o=20:=(by omega);rw[<-hu.o];simp[uB,hmn,qN,jR,h']
       obtain⟨bs,cps,rfl,-⟩:=id HS3.o;obtain⟨mm,hmm,hb2⟩:∃mm:Int,Hid ((fJ o:Int)=mm)/\(mm==2)=false:=⟨_,rfl,by rw[hmn];rfl⟩
       have hol:=c4j o;have HYI:Hid (∀w,Calls Tryz.prog 145 #[.int .i64 o] w fun e w'=>e= .returned (.agg #[S (bI o),.int .i64 mm,.int .i64 (vM o),.int .i64 (fU o)])/\Bl w w'):=fun w=>(by rw[<-hmm.o];exact a4l o w);go_wp2_with fail;refine(HYI.o _).mono ?_;rintro e w1 ⟨rfl,hb1⟩;have HB1:=aB (HB.o.call hb1);have HX1:=aB ((hb1.block W.heap.size hzr).trans HX.o);have hz1:=(aC.1 HX1.o).1;have HI:=aB (aN w1 (.cells #[S (bI o),.int .i64 mm,.int .i64 (vM o),.int .i64 (fU o)] 182));have HX2:=aB ((aW w1 (.cells #[S (bI o),.int .i64 mm,.int .i64 (vM o),.int .i64 (fU o)] 182) hz1).trans HX1.o);have HB2:=aB (HB1.o.alloc (.cells #[S (bI o),.int .i64 mm,.int .i64 (vM o),.int .i64 (fU o)] 182));have HS2:=aB ((HS3.o.bl hb1).bl ((Bl.refl w1).alloc (.cells #[S (bI o),.int .i64 mm,.int .i64 (vM o),.int .i64 (fU o)] 182)));clear e0 e1 e2 e3 e4 e5 e6 e7 hmn;obtain⟨⟨-,-,-,-,-,-,e6,-⟩,-⟩:=eight HX1.o;go_wp2;go_ret;exact⟨by rw[<-HE.o];simp[rZ],HB2.o⟩
      by_cases h17:17<=o
      ·have HE:Hid ([40]++z++[32]++bI o++[41]=u):=by
        show _=_;have h':¬(o=19\/o=20):=(by omega);have h'':o=17\/o=18:=(by omega);rw[<-hu.o];simp[uB,hmn,mR,d0l,h',h'']
       obtain⟨bs,cps,rfl,-⟩:=id HS3.o;obtain⟨mm,hmm,hb2⟩:∃mm:Int,Hid ((fJ o:Int)=mm)/\(mm==2)=false:=⟨_,rfl,by rw[hmn];rfl⟩
       have hol:=c4j o;have HYI:Hid (∀w,Calls Tryz.prog 145 #[.int .i64 o] w fun e w'=>e= .returned (.agg #[S (bI o),.int .i64 mm,.int .i64 (vM o),.int .i64 (fU o)])/\Bl w w'):=fun w=>(by rw[<-hmm.o];exact a4l o w);go_wp2_with fail;refine(HYI.o _).mono ?_;rintro e w1 ⟨rfl,hb1⟩;have HB1:=aB (HB.o.call hb1);have HX1:=aB ((hb1.block W.heap.size hzr).trans HX.o);have hz1:=(aC.1 HX1.o).1;have HI:=aB (aN w1 (.cells #[S (bI o),.int .i64 mm,.int .i64 (vM o),.int .i64 (fU o)] 182));have HX2:=aB ((aW w1 (.cells #[S (bI o),.int .i64 mm,.int .i64 (vM o),.int .i64 (fU o)] 182) hz1).trans HX1.o);have HB2:=aB (HB1.o.alloc (.cells #[S (bI o),.int .i64 mm,.int .i64 (vM o),.int .i64 (fU o)] 182));have HS2:=aB ((HS3.o.bl hb1).bl ((Bl.refl w1).alloc (.cells #[S (bI o),.int .i64 mm,.int .i64 (vM o),.int .i64 (fU o)] 182)));clear e0 e1 e2 e3 e4 e5 e6 e7 hmn;obtain⟨⟨-,-,-,-,-,-,e6,-⟩,-⟩:=eight HX1.o;go_wp2_with fail;obtain⟨b',cap',eb,-,-,hc⟩:=HS2.o;have c0:=hc 0 (by simp)
       skip
       have i0:(w1.alloc (.cells #[S (bI o),.int .i64 mm,.int .i64 (vM o),.int .i64 (fU o)] 182)).cell? ⟨w1.heap.size,0,none⟩=some (S (bI o)):=(by rw[aG HI.o];rfl);simp only[jB] at c0;clear hc e6;obtain⟨rfl,rfl⟩:bs=b'/\cps=cap':=by simpa using eb
       go_quiet (fail)
       go_wp2;go_ret;exact⟨by rw[<-HE.o];simp[rZ],HB2.o.call (Bl.drewN _ _)⟩
      ·have HE:Hid ([40]++bI o++[32]++z++[41]=u):=by
        show _=_;have h':¬(o=19\/o=20):=(by omega);have h'':¬(o=17\/o=18):=(by omega);rw[<-hu.o];simp[uB,hmn,mR,d0l,h',h'']
       obtain⟨bs,cps,rfl,-⟩:=id HS3.o;obtain⟨mm,hmm,hb2⟩:∃mm:Int,Hid ((fJ o:Int)=mm)/\(mm==2)=false:=⟨_,rfl,by rw[hmn];rfl⟩
       have hol:=c4j o;have HYI:Hid (∀w,Calls Tryz.prog 145 #[.int .i64 o] w fun e w'=>e= .returned (.agg #[S (bI o),.int .i64 mm,.int .i64 (vM o),.int .i64 (fU o)])/\Bl w w'):=fun w=>(by rw[<-hmm.o];exact a4l o w);go_wp2_with fail;refine(HYI.o _).mono ?_;rintro e w1 ⟨rfl,hb1⟩;have HB1:=aB (HB.o.call hb1);have HX1:=aB ((hb1.block W.heap.size hzr).trans HX.o);have hz1:=(aC.1 HX1.o).1;have HI:=aB (aN w1 (.cells #[S (bI o),.int .i64 mm,.int .i64 (vM o),.int .i64 (fU o)] 182));have HX2:=aB ((aW w1 (.cells #[S (bI o),.int .i64 mm,.int .i64 (vM o),.int .i64 (fU o)] 182) hz1).trans HX1.o);have HB2:=aB (HB1.o.alloc (.cells #[S (bI o),.int .i64 mm,.int .i64 (vM o),.int .i64 (fU o)] 182));have HS2:=aB ((HS3.o.bl hb1).bl ((Bl.refl w1).alloc (.cells #[S (bI o),.int .i64 mm,.int .i64 (vM o),.int .i64 (fU o)] 182)));clear e0 e1 e2 e3 e4 e5 e6 e7 hmn;obtain⟨⟨-,-,-,-,-,-,e6,-⟩,-⟩:=eight HX1.o;go_wp2_with fail;obtain⟨b',cap',eb,-,-,hc⟩:=HS2.o;have c0:=hc 0 (by simp)
       skip
       have i0:(w1.alloc (.cells #[S (bI o),.int .i64 mm,.int .i64 (vM o),.int .i64 (fU o)] 182)).cell? ⟨w1.heap.size,0,none⟩=some (S (bI o)):=(by rw[aG HI.o];rfl);simp only[jB] at c0;clear hc e6;obtain⟨rfl,rfl⟩:bs=b'/\cps=cap':=by simpa using eb
       go_quiet (fail)
       go_wp2;go_ret;exact⟨by rw[<-HE.o];simp[rZ],HB2.o.call (Bl.drewN _ _)⟩
    ·have HE:Hid (bZ++[40]++z++[41]=u):=by show _=_;rw[<-hu.o,HZ'.o];rfl
     go_wp2;go_ret;exact⟨by rw[<-HE.o];simp[rZ,bZ],HB.o⟩
    ·by_cases h0:(args.length:Int)=0
     ·have hl:ls=[]:=lM (by have:=HML.o;omega);have HE:Hid (gX++[40]++[42]++[41]=u):=by
       show _=_;have h:=HR.o.right;have hz:args.isEmpty=true:=by cases args with |nil=>rfl|cons _ _=>simp at h0;omega
       simp[dV,hz] at h;have hn:nm=gX:=by
        rcases h.2 with h2|h2
        ·omega
        ·exact h2
       rw[<-hu.o,hl,hn];rfl
      have hb:((args.length:Int)==0)=true:=(by simpa using h0);clear h0;go_wp2;go_ret;exact⟨by rw[<-HE.o]<;>rfl,HB.o⟩
     ·have hln:nm.length<=10000:=by
       have h:=HR.o.right;simp[dV] at h;exact c1k (by simpa using h.1.2)
      have HE:Hid (nm++[40]++z++[41]=u):=by
       show _=_;have hl:ls≠[]:=fun h=>(by have:=HML.o;rw[h] at this;simp at this;omega);rw[<-hu.o,HZ'.o];simp[uB,qN,hl]
      have hb:((args.length:Int)==0)=false:=(by simpa using h0);clear h0;go_wp2;go_ret;exact⟨by rw[<-HE.o];simp[rZ],HB.o⟩
end
end Go.Proofs.YtfkekkgfmhcanaaGreatDoor
