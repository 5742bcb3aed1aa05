/- Texts beside the shared ones. -/
import Derived.Test.YtfkekkgfmhcanaaGreatDoorTS
import Derived.Test.YtfkekkgfmhcanaaGreatDoorTA
import Derived.Test.YtfkekkgfmhcanaaGreatDoorTB
import Derived.Test.YtfkekkgfmhcanaaGreatDoorTC
import Derived.Test.YtfkekkgfmhcanaaGreatDoorTD
import Derived.Test.YtfkekkgfmhcanaaGreatDoorTE
import Derived.Test.YtfkekkgfmhcanaaGreatDoorTF
import Derived.Test.YtfkekkgfmhcanaaGreatDoorTG
import Derived.Test.YtfkekkgfmhcanaaGreatDoorTH
import Derived.Test.YtfkekkgfmhcanaaGreatDoorTI
import Derived.Test.YtfkekkgfmhcanaaGreatDoorTJ
import Derived.Test.YtfkekkgfmhcanaaGreatDoorWZE
namespace Go.Proofs.YtfkekkgfmhcanaaGreatDoor
open Go.RowKit
open _root_.Array renaming getElem?_eq_some_iff->aC
open _root_.Bool renaming false_and->pK,true_and->rC
open _root_.Go.Lib renaming hid->aB
open _root_.List renaming drop_eq_getElem_cons->aZ,drop_length->dO,getElem_mem->dS
open _root_.Nat renaming le_refl->aH,zero_le->dL
set_option maxRecDepth 100000
set_option maxHeartbeats 4000000
section
theorem x_right{x:Ex}(hp:e0m x)(hk:c4f x)(W:World)(v:Value)(hv:eO W x v):Calls Tryz.prog 81 #[v] W fun e w'=>e= .returned (.bool (eH x))/\Bl W w':=c7i _ x (aH _) hp.parts hk hp.lens W v hv
theorem ynone_any{x:Ex}(hp:fC x<=1000000)(W:World)(v:Value)(hv:eO W x v):Calls Tryz.prog 80 #[v] W fun e w'=>e= .returned (.bool (d3i x))/\Bl W w':=by
 have HE:Hid (∀w,Bl W w->Calls Tryz.prog 59 #[v,zEV] w fun e w'=>e= .returned (.bool (d3i x))/\Bl w w'):=fun w hb=>a1o _ x zeroE (aH _) hp w v _ (hv.bl hb) (e1c w);obtain⟨sv,rfl,hR⟩:=hv;obtain⟨a,cap,rfl,-⟩:=hR.shape;generalize d3i x=r at *;clear hR hp;obtain⟨k,⟨v1,v2,v3⟩,t,n,o,args⟩:=x;simp only[Ex.k,Ex.v,Ex.t,Ex.n,Ex.o,Ex.args] at *;go_enter Tryz.func80,Tryz.ntmps80;go_wp2_with fail;refine(HE.o _ ?_).mono ?_
 ·first |exact Bl.refl _|exact(Bl.refl _).alloc _|exact((Bl.refl _).alloc _).alloc _
 rintro e w1 ⟨rfl,hb⟩;go_wp2;go_ret;exact⟨rfl,by first |exact hb|exact((Bl.refl _).alloc _).call hb|exact(((Bl.refl _).alloc _).alloc _).call hb⟩
theorem ymay_any{x:Ex}(hp:e0m x)(hk:c4f x)(W:World)(v:Value)(hv:eO W x v):Calls Tryz.prog 79 #[v] W fun e w'=>e= .returned (.bool (d3i x||eH x))/\Bl W w':=by
 have H1:Hid (∀w,Bl W w->Calls Tryz.prog 80 #[v] w fun e w'=>e= .returned (.bool (d3i x))/\Bl w w'):=fun w hb=>ynone_any hp.parts w v (hv.bl hb);have H2:Hid (∀w,Bl W w->Calls Tryz.prog 81 #[v] w fun e w'=>e= .returned (.bool (eH x))/\Bl w w'):=fun w hb=>x_right hp hk w v (hv.bl hb);obtain⟨sv,rfl,hR⟩:=hv;obtain⟨a,cap,rfl,-⟩:=hR.shape;generalize d3i x=r1 at *;generalize eH x=r2 at *;clear hR hp hk;obtain⟨k,⟨v1,v2,v3⟩,t,n,o,args⟩:=x;simp only[Ex.k,Ex.v,Ex.t,Ex.n,Ex.o,Ex.args] at *;have HX0:=aB (aN W (.cells #[.int .i64 k,.int .i64 v1,.int .i64 v2,S v3,S t,S n,.int .i64 o,.slice a args.length cap] 33));have HB0:=aB ((Bl.refl W).alloc (.cells #[.int .i64 k,.int .i64 v1,.int .i64 v2,S v3,S t,S n,.int .i64 o,.slice a args.length cap] 33));go_enter Tryz.func79,Tryz.ntmps79;go_wp2_with fail;refine(H1.o _ HB0.o).mono ?_;rintro e w1 ⟨rfl,hb1⟩;have HB1:=aB (HB0.o.call hb1);cases r1
 ·obtain⟨⟨e0,e1,e2,e3,e4,e5,e6,e7⟩,-⟩:=eight ((hb1.block W.heap.size (by simp)).trans HX0.o);clear hb1;go_wp2_with fail;refine(H2.o _ HB1.o).mono ?_;rintro e w2 ⟨rfl,hb2⟩;go_wp2;go_ret;exact⟨rfl,HB1.o.call hb2⟩
 ·go_wp2;go_ret;exact⟨rfl,HB1.o⟩
theorem ysource_any{s:So}(hs:e7e s)(W:World):Calls Tryz.prog 78 #[.agg #[S s.t,S s.al]] W fun e w'=>e= .returned (.bool (d4c s))/\Bl W w':=by
 obtain⟨t,al⟩:=s;have H1:Hid (∀w,Calls Tryz.prog 143 #[S t] w fun e w'=>e= .returned (.bool (mO t))/\Bl w w'):=fun w=>b4a t hs.t w;have H2:Hid (∀w,Calls Tryz.prog 143 #[S al] w fun e w'=>e= .returned (.bool (mO al))/\Bl w w'):=fun w=>b4a al hs.al w;show Calls Tryz.prog 78 #[.agg #[S t,S al]] W fun e w'=>e= .returned (.bool (mO t&&(al==[]||mO al)))/\Bl W w';clear hs;have hX0:=aN W (.cells #[S t,S al] 24);have HB0:=aB ((Bl.refl W).alloc (.cells #[S t,S al] 24));generalize mO al=r2 at *;generalize mO t=r1 at *;cases r1
 ·clear hX0 H2;go_enter Tryz.func78,Tryz.ntmps78;go_wp2_with fail;refine(H1.o _).mono ?_;rintro e w1 ⟨rfl,hb⟩;go_wp2;go_ret;exact⟨rfl,HB0.o.call hb⟩
 ·go_enter Tryz.func78,Tryz.ntmps78;go_wp2_with fail;refine(H1.o _).mono ?_;rintro e w1 ⟨rfl,hb⟩;have HB1:=aB (HB0.o.call hb);obtain⟨s0,s1,-,-,-⟩:=aU ((hb.block _ (by simp)).trans hX0);clear hb hX0;by_cases h:al=[]
  ·subst h;go_wp2;go_ret;exact⟨rfl,HB1.o⟩
  ·have hbe:(al==[])=false:=by simpa using h
   go_wp2_with fail;refine(H2.o _).mono ?_;rintro e w2 ⟨rfl,hb⟩;go_wp2;go_ret;exact⟨by first |rfl|(rw[hbe]<;>rfl),HB1.o.call hb⟩
theorem yitem_any{i:It}(hi:e7f i)(hk:c4f i.x){p:Nat->Prop}{W:World}{s:Value}(hr:bG p W s i.x.args):Calls Tryz.prog 75 #[.agg (fIt.cells i s).toArray] W fun e w'=>e= .returned (.bool (d3r i))/\Bl W w':=by
 obtain⟨a,c,rfl⟩:=hr.shape;obtain⟨st,t,x,al⟩:=i;have hR:gU W (.slice a x.args.length c) x.args:=hr.reads;have H1:Hid (∀w,Bl W w->Calls Tryz.prog 80 #[EV x.k x.v x.t x.n x.o (.slice a x.args.length c)] w fun e w'=>e= .returned (.bool (d3i x))/\Bl w w'):=fun w hb=>ynone_any hi.x.parts w _ ⟨_,rfl,hR.bl hb⟩;have H2:Hid (∀w,Bl W w->Calls Tryz.prog 81 #[EV x.k x.v x.t x.n x.o (.slice a x.args.length c)] w fun e w'=>e= .returned (.bool (eH x))/\Bl w w'):=fun w hb=>x_right hi.x hk w _ ⟨_,rfl,hR.bl hb⟩;have H3:Hid (∀w,Calls Tryz.prog 143 #[S t] w fun e w'=>e= .returned (.bool (mO t))/\Bl w w'):=fun w=>b4a t hi.t w;have H4:Hid (∀w,Calls Tryz.prog 143 #[S al] w fun e w'=>e= .returned (.bool (mO al))/\Bl w w'):=fun w=>b4a al hi.al w;have HE:Hid (d3r ⟨st,t,x,al⟩=if st=true then d3i x&&al==[]&&(t==[]||mO t) else t==[]&&eH x&&(al==[]||mO al)):=rfl;rw[HE.o];clear hr hR hi HE hk;generalize d3i x=r1 at *;generalize eH x=r2 at *;generalize mO t=r3 at *;generalize mO al=r4 at *;obtain⟨k,⟨v1,v2,v3⟩,xt,xn,o,args⟩:=x;simp only[Ex.k,Ex.v,Ex.t,Ex.n,Ex.o,Ex.args] at *;generalize args.length=m at *;show Calls Tryz.prog 75 #[.agg (e6e st t k v1 v2 v3 xt xn o (.slice a m c) al).toArray] W _;have HX:=aB (aN W (.cells (e6e st t k v1 v2 v3 xt xn o (.slice a m c) al).toArray 91));have HB1:=aB ((Bl.refl W).alloc (.cells (e6e st t k v1 v2 v3 xt xn o (.slice a m c) al).toArray 91));obtain⟨c0,c1,c2,c3,c4,c5,c6,c7,c8,c9,c10⟩:=d3y HX.o;cases st
 ·by_cases ht:t=[]
  case neg=>
   have hb:(t==[])=false:=(by simpa using ht);rw[if_neg (by decide),hb,pK,pK];clear ht;go_enter Tryz.func75,Tryz.ntmps75;go_wp2;go_ret;exact⟨rfl,HB1.o⟩
  subst ht;cases r2
  ·clear H1 H3 H4;go_enter Tryz.func75,Tryz.ntmps75;go_wp2_with fail;refine(H2.o _ HB1.o).mono ?_;rintro e w9 ⟨rfl,hb⟩
   replace HB1:=aB (HB1.o.call hb)
   replace HX:=aB ((hb.block _ (aC.1 HX.o).1).trans HX.o)
   clear hb c0 c1 c2 c3 c4 c5 c6 c7 c8 c9 c10;obtain⟨c0,c1,c2,c3,c4,c5,c6,c7,c8,c9,c10⟩:=d3y HX.o;go_wp2;go_ret;exact⟨rfl,HB1.o⟩
  ·clear H1 H3;go_enter Tryz.func75,Tryz.ntmps75;go_wp2_with fail;refine(H2.o _ HB1.o).mono ?_;rintro e w9 ⟨rfl,hb⟩
   replace HB1:=aB (HB1.o.call hb)
   replace HX:=aB ((hb.block _ (aC.1 HX.o).1).trans HX.o)
   clear hb c0 c1 c2 c3 c4 c5 c6 c7 c8 c9 c10;obtain⟨c0,c1,c2,c3,c4,c5,c6,c7,c8,c9,c10⟩:=d3y HX.o;by_cases ha:al=[]
   ·subst ha;go_wp2;go_ret;exact⟨rfl,HB1.o⟩
   ·have hbe:(al==[])=false:=by simpa using ha
    go_wp2_with fail;refine(H4.o _).mono ?_;rintro e w9 ⟨rfl,hb⟩
    replace HB1:=aB (HB1.o.call hb)
    replace HX:=aB ((hb.block _ (aC.1 HX.o).1).trans HX.o)
    clear hb c0 c1 c2 c3 c4 c5 c6 c7 c8 c9 c10;obtain⟨c0,c1,c2,c3,c4,c5,c6,c7,c8,c9,c10⟩:=d3y HX.o;go_wp2;go_ret;exact⟨by first |rfl|(rw[hbe]<;>rfl),HB1.o⟩
 ·cases r1
  ·clear H2 H3 H4;go_enter Tryz.func75,Tryz.ntmps75;go_wp2_with fail;refine(H1.o _ HB1.o).mono ?_;rintro e w9 ⟨rfl,hb⟩
   replace HB1:=aB (HB1.o.call hb)
   replace HX:=aB ((hb.block _ (aC.1 HX.o).1).trans HX.o)
   clear hb c0 c1 c2 c3 c4 c5 c6 c7 c8 c9 c10;obtain⟨c0,c1,c2,c3,c4,c5,c6,c7,c8,c9,c10⟩:=d3y HX.o;go_wp2;go_ret;exact⟨rfl,HB1.o⟩
  ·by_cases ht:al=[]
   case neg=>
    have hb:(al==[])=false:=(by simpa using ht);rw[if_pos rfl,hb,rC,pK];clear hb H2 H3 H4;go_enter Tryz.func75,Tryz.ntmps75;go_wp2_with fail;refine(H1.o _ HB1.o).mono ?_;rintro e w9 ⟨rfl,hb⟩
    replace HB1:=aB (HB1.o.call hb)
    replace HX:=aB ((hb.block _ (aC.1 HX.o).1).trans HX.o)
    clear hb c0 c1 c2 c3 c4 c5 c6 c7 c8 c9 c10;obtain⟨c0,c1,c2,c3,c4,c5,c6,c7,c8,c9,c10⟩:=d3y HX.o;go_wp2;go_ret;exact⟨rfl,HB1.o⟩
   subst ht;clear H2 H4;go_enter Tryz.func75,Tryz.ntmps75;go_wp2_with fail;refine(H1.o _ HB1.o).mono ?_;rintro e w9 ⟨rfl,hb⟩
   replace HB1:=aB (HB1.o.call hb)
   replace HX:=aB ((hb.block _ (aC.1 HX.o).1).trans HX.o)
   clear hb c0 c1 c2 c3 c4 c5 c6 c7 c8 c9 c10;obtain⟨c0,c1,c2,c3,c4,c5,c6,c7,c8,c9,c10⟩:=d3y HX.o;by_cases ha:t=[]
   ·subst ha;go_wp2;go_ret;exact⟨rfl,HB1.o⟩
   ·have hbe:(t==[])=false:=by simpa using ha
    go_wp2_with fail;refine(H3.o _).mono ?_;rintro e w9 ⟨rfl,hb⟩
    replace HB1:=aB (HB1.o.call hb)
    replace HX:=aB ((hb.block _ (aC.1 HX.o).1).trans HX.o)
    clear hb c0 c1 c2 c3 c4 c5 c6 c7 c8 c9 c10;obtain⟨c0,c1,c2,c3,c4,c5,c6,c7,c8,c9,c10⟩:=d3y HX.o;go_wp2;go_ret;exact⟨by first |rfl|(rw[hbe]<;>rfl),HB1.o⟩
theorem all_drop{α:Type}{p:α->Bool}{l:List α}{j:Nat}(h:j<l.length):(l.drop j).all p=(p l[j]&&(l.drop (j+1)).all p):=by
 rw[aZ h,List.all_cons]
theorem yItems_any{l:List It}(hlen:l.length<=1000000)(hi:∀i∈l,e7f i/\c4f i.x){p:Nat->Prop}{W:World}{v:Value}(hR:d2p fIt p W v l):Calls Tryz.prog 27 #[v] W fun e w'=>e= .returned (.bool (d4l l))/\Bl W w':=by
 obtain⟨a,cap,rfl,hc⟩:=hR.shape;have HC:=aB hc;have HI:Hid (∀i∈l,∀(W:World) (s:Value),bG p W s i.x.args->Calls Tryz.prog 75 #[.agg (fIt.cells i s).toArray] W fun e w'=>e= .returned (.bool (d3r i))/\Bl W w'):=fun i m W s hr=>yitem_any (hi i m).1 (hi i m).2 hr;obtain⟨R,HRR⟩:∃R,Hid (d4l l=R):=⟨_,rfl⟩
 rw[HRR.o]
 replace HRR:=aB (show(l.all d3r&&(decide ((1:Int)<=(l.length:Int))&&decide ((l.length:Int)<=32)))=R by
  rw[<-HRR.o,Bool.and_comm];unfold d4l
  congr 2<;>exact decide_eq_decide.2 (by omega))
 clear hR hc hi;go_enter Tryz.func27,Tryz.ntmps27;go_wp2_with fail;go_loopw [3] (fun i wr=>∃j:Nat,j<=l.length/\i= .int .i64 (j:Int)/\Hid (l.all d3r=(l.drop j).all d3r)/\Hid (Bl W wr)) (fun i _=>l.length-(intOf i).toNat)
 case atStart=>exact⟨0,dL _,rfl,rfl,Bl.refl W⟩
 case round=>
  obtain⟨j,hj,rfl,HD,HB⟩:=hrel;by_cases hlt:j<l.length
  ·obtain⟨b,off,s,rfl,-,hbl,hcs,hr⟩:=HC.o j hlt;have HDj:=aB (HD.o.trans (all_drop hlt));have HIj:=aB (HI.o _ (dS hlt) _ _ (hr.bl HB.o))
   replace hcs:=hcs.keep (HB.o.block b hbl)
   have hlt':(j:Int)<(l.length:Int):=(by omega);obtain⟨ad,ca,rfl⟩:=hr.shape;clear hr;generalize l[j]=y at *;obtain⟨st,tt,⟨zk,⟨z1,z2,z3⟩,zt,zn,zo,za⟩,al⟩:=y
   replace hcs:d2k wr b (off+j * 11) [.bool st,S tt,.int .i64 zk,.int .i64 z1,.int .i64 z2,S z3,S zt,S zn,.int .i64 zo,.slice ad za.length ca,S al]:=hcs
   have e0:wr.cell? ⟨b,off+j * 11,none⟩=some (.bool st):=hcs 0 _ rfl;have e1:wr.cell? ⟨b,off+j * 11+1,none⟩=some (S tt):=hcs 1 _ rfl;have e2:wr.cell? ⟨b,off+j * 11+2,none⟩=some (.int .i64 zk):=hcs 2 _ rfl;have e3:wr.cell? ⟨b,off+j * 11+3,none⟩=some (.int .i64 z1):=hcs 3 _ rfl;have e4:wr.cell? ⟨b,off+j * 11+4,none⟩=some (.int .i64 z2):=hcs 4 _ rfl;have e5:wr.cell? ⟨b,off+j * 11+5,none⟩=some (S z3):=hcs 5 _ rfl;have e6:wr.cell? ⟨b,off+j * 11+6,none⟩=some (S zt):=hcs 6 _ rfl;have e7:wr.cell? ⟨b,off+j * 11+7,none⟩=some (S zn):=hcs 7 _ rfl;have e8:wr.cell? ⟨b,off+j * 11+8,none⟩=some (.int .i64 zo):=hcs 8 _ rfl;have e9:wr.cell? ⟨b,off+j * 11+9,none⟩=some (.slice ad za.length ca):=hcs 9 _ rfl;have e10:wr.cell? ⟨b,off+j * 11+10,none⟩=some (S al):=hcs 10 _ rfl;clear hcs;go_wp2_with fail;refine HIj.o.mono ?_;rintro e w1 ⟨rfl,hb1⟩;have HB1:=aB (HB.o.call hb1);clear hb1 e0 e1 e2 e3 e4 e5 e6 e7 e8 e9 e10;cases hs:d3r ⟨st,tt,(.mk zk (z1,z2,z3) zt zn zo za),al⟩
   ·have HN:=aB (show false=R from by rw[<-HRR.o,HDj.o,hs,pK,pK]);clear hs;go_wp2;go_ret;exact⟨by rw[<-HN.o]<;>rfl,HB1.o⟩
   ·have HN:=aB (show l.all d3r=(l.drop (j+1)).all d3r from by rw[HDj.o,hs,rC]);clear hs;go_wp2;go_roundw
    case rel=>exact⟨j+1,by omega,by go_num,HN.o,HB1.o⟩
    case measure=>simp[intOf];omega
  ·obtain rfl:j=l.length:=by omega
   have HN:=aB (show(decide ((1:Int)<=(l.length:Int))&&decide ((l.length:Int)<=32))=R from by rw[<-HRR.o,HD.o,dO,List.all_nil,rC]);by_cases h1:(1:Int)<=(l.length:Int)
   ·have HN2:=aB (show decide ((l.length:Int)<=32)=R from by rw[<-HN.o,decide_eq_true h1];rfl);go_wp2;go_ret;exact⟨by rw[<-HN2.o]<;>rfl,HB.o⟩
   ·have HN2:=aB (show false=R from by rw[<-HN.o,decide_eq_false h1];rfl);go_wp2;go_ret;exact⟨by rw[<-HN2.o]<;>rfl,HB.o⟩
end
end Go.Proofs.YtfkekkgfmhcanaaGreatDoor
