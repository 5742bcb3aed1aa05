/- Texts beside the shared ones. -/
import Derived.Test.YtkimpcmkminffaaGreatDoorWX0
import Derived.Test.YtkimpcmkminffaaGreatDoorWZC
namespace Go.Proofs.YtkimpcmkminffaaGreatDoor
open Go.RowKit
open _root_.Array renaming getElem?_eq_some_iff->aC
open _root_.Bool renaming and_eq_true->aQ,or_eq_true->jO
open _root_.Go.Lib renaming hid->aB
open _root_.List renaming drop_length->dO,getElem_mem->dS
open _root_.Nat renaming zero_le->dL
open NoPanic renaming normal->bF
set_option maxRecDepth 100000
set_option maxHeartbeats 8000000
section
theorem d1m{v1 v2 o:Int}{v3 t n:List UInt8}{a:Option Addr}{cap:Nat}{R bn bt:Bool}{args:List Ex}{W:World}
  (HIn:Hid (∀w,Calls Tryz.prog 58 #[S n] w fun e w'=>e= .returned (.bool bn)/\Bl w w')) (HIt:Hid (∀w,Calls Tryz.prog 58 #[S t] w fun e w'=>e= .returned (.bool bt)/\Bl w w'))
  (HA:Hid (c5e 36 eH W a args)) (HN:Hid (¬(bn=true/\(t=[]\/bt=true)/\args.length=0/\v1=0/\v2=0/\v3=[]/\o=0)->R=false)) (HY:Hid ((bn=true/\(t=[]\/bt=true)/\args.length=0/\v1=0/\v2=0/\v3=[]/\o=0)->R=(args.drop 0).all eH)):
  Calls Tryz.prog 36 #[EV 2 (v1,v2,v3) t n o (.slice a args.length cap)] W fun e w'=>e= .returned (.bool R)/\Bl W w':=by
 have HX0:=aB (c5r W (.cells #[.int .i64 2,.int .i64 v1,.int .i64 v2,S v3,S t,S n,.int .i64 o,.slice a args.length cap] 47) (.cells #[.int .i64 2,.int .i64 0,.int .i64 0,S [],S [],S [],.int .i64 0,.slice none 0 0] 47));have HU0:=aB (d0p W (.cells #[.int .i64 2,.int .i64 v1,.int .i64 v2,S v3,S t,S n,.int .i64 o,.slice a args.length cap] 47) (.cells #[.int .i64 2,.int .i64 0,.int .i64 0,S [],S [],S [],.int .i64 0,.slice none 0 0] 47));have HB0:=aB (((Bl.refl W).alloc (.cells #[.int .i64 2,.int .i64 v1,.int .i64 v2,S v3,S t,S n,.int .i64 o,.slice a args.length cap] 47)).alloc (.cells #[.int .i64 2,.int .i64 0,.int .i64 0,S [],S [],S [],.int .i64 0,.slice none 0 0] 47));have ht:t=[]\/((t==[])=false/\(t != [])=true):=by
  by_cases e:t=[]
  ·exact .inl e
  ·exact .inr ⟨by simpa using e,by simpa using e⟩
 go_enter Tryz.func36,Tryz.ntmps36;go_wp2_with fail;refine wp_region_noPanic (bM (fun B=>B.heap[W.heap.size]?=some (.cells #[.int .i64 2,.int .i64 v1,.int .i64 v2,S v3,S t,S n,.int .i64 o,.slice a args.length cap] 47 (0,0))) ((.take 0 (.take 1 (.take 2 (.take 3 (.take 4 (.one 5 (.take 6 (.one 7 .done))))))))) (by kernel_rfl) (by kernel_rfl) (by kernel_rfl) (fun _ _ _ _ _ h=>h) (HX0.o) ?_);intro wd HWD hY;iterate 5 (refine cT ?_)
 have HU1:=aB ((HWD.o.block _ (by simp)).trans HU0.o);have HBW:=aB (HB0.o.call HWD.o);obtain⟨⟨u0,u1,u2,u3,u4,u5,u6,u7⟩,g0,g1,g2,g3,g4,g5,g6,g7⟩:=eight HU1.o;refine aL rfl (fun K hK=>?_);go_simp;refine hK.o _ _ (((aM _ ⟨W.heap.size+1,4,none⟩ _ _ (by show W.heap.size≠W.heap.size+1;omega)).trans hY)) ?_;clear hY hK K;intro hY;refine cT ?_;clear u0 u1 u2 u3 u4 u5 u6 u7 g0 g1 g2 g3 g4 g5 g6 g7;have HU2:Hid ((wd.setCell ⟨W.heap.size+1,4,none⟩ (S t)).heap[W.heap.size+1]?=some (.cells #[.int .i64 2,.int .i64 0,.int .i64 0,S [],S t,S [],.int .i64 0,.slice none 0 0] 47 (0,0))):=lN HU1.o 4 _;obtain⟨⟨u0,u1,u2,u3,u4,u5,u6,u7⟩,g0,g1,g2,g3,g4,g5,g6,g7⟩:=eight HU2.o;refine aL rfl (fun K hK=>?_);go_simp;refine hK.o _ _ (((aM _ ⟨W.heap.size+1,5,none⟩ _ _ (by show W.heap.size≠W.heap.size+1;omega)).trans hY)) ?_;clear hY hK K;intro hY;refine fO (bF ?_);clear u0 u1 u2 u3 u4 u5 u6 u7 g0 g1 g2 g3 g4 g5 g6 g7;have HU3:Hid (((wd.setCell ⟨W.heap.size+1,4,none⟩ (S t)).setCell ⟨W.heap.size+1,5,none⟩ (S n)).heap[W.heap.size+1]?=some (.cells #[.int .i64 2,.int .i64 0,.int .i64 0,S [],S t,S n,.int .i64 0,.slice none 0 0] 47 (0,0))):=lN HU2.o 5 _;have HB3:=aB ((HBW.o.set (p:=⟨W.heap.size+1,4,none⟩) (by show W.heap.size<=W.heap.size+1;omega) (S t)).set (p:=⟨W.heap.size+1,5,none⟩) (by show W.heap.size<=W.heap.size+1;omega) (S n));have HX3:=aB hY;clear hY HU2 HU1 HBW;generalize (wd.setCell ⟨W.heap.size+1,4,none⟩ (S t)).setCell ⟨W.heap.size+1,5,none⟩ (S n)=w9 at *;obtain⟨⟨e0,e1,e2,e3,e4,e5,e6,e7⟩,-⟩:=eight HX3.o;go_wp2_with fail;refine(HIn.o _).mono ?_;rintro e w1 ⟨rfl,hb1⟩;have HX1:=aB ((hb1.block W.heap.size (aC.1 HX3.o).1).trans HX3.o);have HU1:=aB ((hb1.block (W.heap.size+1) (aC.1 HU3.o).1).trans HU3.o);have HB1:=aB (HB3.o.call hb1);clear hb1 e0 e1 e2 e3 e4 e5 e6 e7;obtain⟨⟨e0,e1,e2,e3,e4,e5,e6,e7⟩,-⟩:=eight HX1.o;cases hbn:bn
 case false=>
  have HE:=aB (HN.o fun h=>by rw[h.1] at hbn;cases hbn);subst hbn;go_wp2
  all_goals
   go_ret;exact⟨by rw[HE.o]<;>rfl,HB1.o⟩
 subst hbn;rcases ht with rfl|⟨ht1,ht2⟩
 case inl=>
  obtain⟨⟨i0,i1,i2,i3,i4,i5,i6,i7⟩,-⟩:=eight HU1.o;by_cases hm:(args.length:Int)=0
  case neg=>
   have HE:=aB (HN.o fun h=>hm (by have:=h.2.2.1;omega));have hb:((args.length:Int)==0)=false:=(by simpa using hm);have hb':((args.length:Int) != 0)=true:=(by simpa using hm);clear hm;go_wp2
   all_goals
    go_ret;exact⟨by rw[HE.o]<;>rfl,HB1.o⟩
  have HM:=aB (show args.length=0 by omega);have hm1:((args.length:Int)==0)=true:=(by simpa using hm);have hm2:((args.length:Int) != 0)=false:=(by simpa using hm);clear hm;by_cases hv1:v1=0
  case neg=>
   have HE:=aB (HN.o fun h=>hv1 h.2.2.2.1);have hb:(v1==0)=false:=(by simpa using hv1);have hb':(v1 != 0)=true:=(by simpa using hv1);clear hv1;go_wp2
   all_goals
    go_ret;exact⟨by rw[HE.o]<;>rfl,HB1.o⟩
  subst hv1;by_cases hv2:v2=0
  case neg=>
   have HE:=aB (HN.o fun h=>hv2 h.2.2.2.2.1);have hb:(v2==0)=false:=(by simpa using hv2);have hb':(v2 != 0)=true:=(by simpa using hv2);clear hv2;go_wp2
   all_goals
    go_ret;exact⟨by rw[HE.o]<;>rfl,HB1.o⟩
  subst hv2;by_cases hv3:v3=[]
  case neg=>
   have HE:=aB (HN.o fun h=>hv3 h.2.2.2.2.2.1);have hb:(v3==[])=false:=(by simpa using hv3);have hb':(v3 != [])=true:=(by simpa using hv3);clear hv3;go_wp2
   all_goals
    go_ret;exact⟨by rw[HE.o]<;>rfl,HB1.o⟩
  subst hv3;by_cases ho:o=0
  case neg=>
   have HE:=aB (HN.o fun h=>ho h.2.2.2.2.2.2);have hb:(o==0)=false:=(by simpa using ho);have hb':(o != 0)=true:=(by simpa using ho);clear ho;go_wp2
   all_goals
    go_ret;exact⟨by rw[HE.o]<;>rfl,HB1.o⟩
  subst ho;have HE:=aB (HY.o ⟨by first |rfl|trivial,by first |exact(.inl rfl)|simp,HM.o,by first |rfl|trivial,by first |rfl|trivial,by first |rfl|trivial,by first |rfl|trivial⟩);clear HN HY;go_wp2_with fail;clear e0 e1 e2 e3 e4 e5 e6 e7 i0 i1 i2 i3 i4 i5 i6 i7 hm1 hm2;go_loopw [6] (fun i wr=>∃j:Nat,j<=args.length/\i= .int .i64 (j:Int)/\Hid (R=(args.drop j).all eH)/\Bl W wr/\Hid (wr.heap[W.heap.size]?=some (.cells #[.int .i64 2,.int .i64 0,.int .i64 0,S [],S [],S n,.int .i64 0,.slice a args.length cap] 47 (0,0)))) (fun i _=>args.length-(intOf i).toNat)
  case atStart=>exact⟨0,dL _,rfl,HE.o,HB1.o,HX1.o⟩
  case round=>
   obtain⟨j,hj,rfl,HD,hB,HX⟩:=hrel;obtain⟨⟨-,-,-,-,-,-,-,c7⟩,-⟩:=eight HX.o;have hfew:=HA.o.few;by_cases hlt:j<args.length
   ·have hltI:(j:Int)<(args.length:Int):=by omega
    obtain⟨b,off,s,rfl,h8,hr⟩:=HA.o.at8 j hlt;have HB:=aB hB;have HY:=aB (HA.o.ih _ (dS hlt));have HDj:=aB (a7c hlt);have HR:=aB (hr.bl hB);obtain⟨e0,e1,e2,e3,e4,e5,e6,e7⟩:=h8.bl hB;clear h8 hr hB;generalize hy:args[j]=y at *;clear hy;obtain⟨k',⟨v1',v2',v3'⟩,t',nm',o',args'⟩:=y;simp only[Ex.k,Ex.v,Ex.t,Ex.n,Ex.o] at e0 e1 e2 e3 e4 e5 e6;go_wp2_with fail;have hRE:eO wr (.mk k' (v1',v2',v3') t' nm' o' args') (EV k' (v1',v2',v3') t' nm' o' s):=⟨s,rfl,HR.o⟩
    (with_reducible refine(HY.o _ _ hRE).mono ?_)
    rintro e w5 ⟨rfl,hb5⟩;have HB5:=aB (HB.o.call hb5);have HX5:=aB ((hb5.block _ (aC.1 HX.o).1).trans HX.o);clear hb5 e0 e1 e2 e3 e4 e5 e6 e7 c7 hRE;cases hs:eH (.mk k' (v1',v2',v3') t' nm' o' args')
    ·have HF:=aB (show R=false from by rw[HD.o,HDj.o,hs];rfl);clear hs;go_wp2;go_ret;exact⟨by rw[HF.o]<;>rfl,HB5.o⟩
    ·have HF:=aB (show R=(args.drop (j+1)).all eH from by rw[HD.o,HDj.o,hs];rfl);clear hs;go_wp2;go_roundw
     case rel=>exact⟨j+1,by omega,by go_num,HF.o,HB5.o,HX5.o⟩
     case measure=>simp[intOf];omega
   ·obtain rfl:j=args.length:=by omega
    have HF:Hid (R=true):=(by show R=true;rw[HD.o,dO];rfl);have HB:=aB hB;clear hB;go_wp2;go_ret;exact⟨by rw[HF.o]<;>rfl,HB.o⟩
 case inr=>
  go_wp2_with fail;refine(HIt.o _).mono ?_;rintro e w2 ⟨rfl,hb2⟩;have HX2:=aB ((hb2.block W.heap.size (aC.1 HX1.o).1).trans HX1.o);have HU2:=aB ((hb2.block (W.heap.size+1) (aC.1 HU1.o).1).trans HU1.o);have HB2:=aB (HB1.o.call hb2);have HT:=aB (show t≠[] by simpa using ht2);clear hb2 e0 e1 e2 e3 e4 e5 e6 e7;obtain⟨⟨e0,e1,e2,e3,e4,e5,e6,e7⟩,-⟩:=eight HX2.o;cases hbt:bt
  case false=>
   have HE:=aB (HN.o fun h=>by
    rcases h.2.1 with h|h
    ·exact HT.o h
    ·rw[h] at hbt;cases hbt)
   subst hbt;go_wp2
   all_goals
    go_ret;exact⟨by rw[HE.o]<;>rfl,HB2.o⟩
  subst hbt;obtain⟨⟨i0,i1,i2,i3,i4,i5,i6,i7⟩,-⟩:=eight HU2.o;by_cases hm:(args.length:Int)=0
  case neg=>
   have HE:=aB (HN.o fun h=>hm (by have:=h.2.2.1;omega));have hb:((args.length:Int)==0)=false:=(by simpa using hm);have hb':((args.length:Int) != 0)=true:=(by simpa using hm);clear hm;go_wp2
   all_goals
    go_ret;exact⟨by rw[HE.o]<;>rfl,HB2.o⟩
  have HM:=aB (show args.length=0 by omega);have hm1:((args.length:Int)==0)=true:=(by simpa using hm);have hm2:((args.length:Int) != 0)=false:=(by simpa using hm);clear hm;by_cases hv1:v1=0
  case neg=>
   have HE:=aB (HN.o fun h=>hv1 h.2.2.2.1);have hb:(v1==0)=false:=(by simpa using hv1);have hb':(v1 != 0)=true:=(by simpa using hv1);clear hv1;go_wp2
   all_goals
    go_ret;exact⟨by rw[HE.o]<;>rfl,HB2.o⟩
  subst hv1;by_cases hv2:v2=0
  case neg=>
   have HE:=aB (HN.o fun h=>hv2 h.2.2.2.2.1);have hb:(v2==0)=false:=(by simpa using hv2);have hb':(v2 != 0)=true:=(by simpa using hv2);clear hv2;go_wp2
   all_goals
    go_ret;exact⟨by rw[HE.o]<;>rfl,HB2.o⟩
  subst hv2;by_cases hv3:v3=[]
  case neg=>
   have HE:=aB (HN.o fun h=>hv3 h.2.2.2.2.2.1);have hb:(v3==[])=false:=(by simpa using hv3);have hb':(v3 != [])=true:=(by simpa using hv3);clear hv3;go_wp2
   all_goals
    go_ret;exact⟨by rw[HE.o]<;>rfl,HB2.o⟩
  subst hv3;by_cases ho:o=0
  case neg=>
   have HE:=aB (HN.o fun h=>ho h.2.2.2.2.2.2);have hb:(o==0)=false:=(by simpa using ho);have hb':(o != 0)=true:=(by simpa using ho);clear ho;go_wp2
   all_goals
    go_ret;exact⟨by rw[HE.o]<;>rfl,HB2.o⟩
  subst ho;have HE:=aB (HY.o ⟨by first |rfl|trivial,by first |exact(.inr rfl)|simp,HM.o,by first |rfl|trivial,by first |rfl|trivial,by first |rfl|trivial,by first |rfl|trivial⟩);clear HN HY;go_wp2_with fail;clear e0 e1 e2 e3 e4 e5 e6 e7 i0 i1 i2 i3 i4 i5 i6 i7 hm1 hm2;go_loopw [6] (fun i wr=>∃j:Nat,j<=args.length/\i= .int .i64 (j:Int)/\Hid (R=(args.drop j).all eH)/\Bl W wr/\Hid (wr.heap[W.heap.size]?=some (.cells #[.int .i64 2,.int .i64 0,.int .i64 0,S [],S t,S n,.int .i64 0,.slice a args.length cap] 47 (0,0)))) (fun i _=>args.length-(intOf i).toNat)
  case atStart=>exact⟨0,dL _,rfl,HE.o,HB2.o,HX2.o⟩
  case round=>
   obtain⟨j,hj,rfl,HD,hB,HX⟩:=hrel;obtain⟨⟨-,-,-,-,-,-,-,c7⟩,-⟩:=eight HX.o;have hfew:=HA.o.few;by_cases hlt:j<args.length
   ·have hltI:(j:Int)<(args.length:Int):=by omega
    obtain⟨b,off,s,rfl,h8,hr⟩:=HA.o.at8 j hlt;have HB:=aB hB;have HY:=aB (HA.o.ih _ (dS hlt));have HDj:=aB (a7c hlt);have HR:=aB (hr.bl hB);obtain⟨e0,e1,e2,e3,e4,e5,e6,e7⟩:=h8.bl hB;clear h8 hr hB;generalize hy:args[j]=y at *;clear hy;obtain⟨k',⟨v1',v2',v3'⟩,t',nm',o',args'⟩:=y;simp only[Ex.k,Ex.v,Ex.t,Ex.n,Ex.o] at e0 e1 e2 e3 e4 e5 e6;go_wp2_with fail;have hRE:eO wr (.mk k' (v1',v2',v3') t' nm' o' args') (EV k' (v1',v2',v3') t' nm' o' s):=⟨s,rfl,HR.o⟩
    (with_reducible refine(HY.o _ _ hRE).mono ?_)
    rintro e w5 ⟨rfl,hb5⟩;have HB5:=aB (HB.o.call hb5);have HX5:=aB ((hb5.block _ (aC.1 HX.o).1).trans HX.o);clear hb5 e0 e1 e2 e3 e4 e5 e6 e7 c7 hRE;cases hs:eH (.mk k' (v1',v2',v3') t' nm' o' args')
    ·have HF:=aB (show R=false from by rw[HD.o,HDj.o,hs];rfl);clear hs;go_wp2;go_ret;exact⟨by rw[HF.o]<;>rfl,HB5.o⟩
    ·have HF:=aB (show R=(args.drop (j+1)).all eH from by rw[HD.o,HDj.o,hs];rfl);clear hs;go_wp2;go_roundw
     case rel=>exact⟨j+1,by omega,by go_num,HF.o,HB5.o,HX5.o⟩
     case measure=>simp[intOf];omega
   ·obtain rfl:j=args.length:=by omega
    have HF:Hid (R=true):=(by show R=true;rw[HD.o,dO];rfl);have HB:=aB hB;clear hB;go_wp2;go_ret;exact⟨by rw[HF.o]<;>rfl,HB.o⟩
theorem c7i:∀(N:Nat) (x:Ex),fC x<=N->N<=1000000->c4f x->Lens x->∀(W:World) (v:Value),eO W x v->Calls Tryz.prog 36 #[v] W fun e w'=>e= .returned (.bool (eH x))/\Bl W w'
 |0,x,h,_,_,_,_,_,_=>by have:=oM x;omega
 |N+1,x,hx,hN,hK,hL,W,v,hv=>by
  obtain⟨sv,rfl,hR⟩:=hv;obtain⟨a,cap,rfl,hc⟩:=hR.shape;have HA:c5e 36 eH W a x.args:=⟨by have:=sG x;omega,hc,fun y hy W' v hv=>c7i N y (by have:=sH hy;omega) (by omega) (by cases hK with |mk _ _ _ _ _ _ _ ha=>exact ha y hy) (by cases hL with |mk _ _ _ _ _ _ _ _ ha=>exact ha y hy) W' v hv⟩
  obtain⟨k,⟨v1,v2,v3⟩,t,n,o,args⟩:=x
  replace HA:c5e 36 eH W a args:=HA
  have hI:I64 v1:=by cases hK with |mk _ _ _ _ _ _ h _=>exact h
  have hln:t.length<=9223372036854775807/\n.length<=9223372036854775807:=by cases hL with |mk _ _ _ _ _ _ h1 h2 _=>exact⟨h1,h2⟩
  show Calls Tryz.prog 36 #[EV k (v1,v2,v3) t n o (.slice a args.length cap)] W fun e w'=>e= .returned (.bool (eH (.mk k (v1,v2,v3) t n o args)))/\Bl W w';rw[a7f];clear hx hK hL hR hc;have he:args.isEmpty=decide (args.length=0):=(by cases args<;>simp);by_cases h1:k=1
  ·subst h1;refine d1n (fun w=>tN v1 v2 v3 hI.1 hI.2 w) HA (fun h=>?_) (fun h=>?_)
   ·rw[Bool.and_eq_false_iff];refine .inl ?_;cases hr:dV 1 (v1,v2,v3) t n o args
    ·rfl
    ·exfalso;apply h;simp only[dV,if_pos,aQ,jO,beq_iff_eq,bne_iff_ne,decide_eq_true_eq,he] at hr;obtain⟨⟨⟨⟨⟨p1,p2⟩,p3⟩,p4⟩,p5⟩,p6⟩:=hr;exact⟨p5,fun q=>by rcases p6 with p6|p6;exact p6 q.1;omega,p4,p1,p2,p3⟩
   ·obtain⟨p5,p6,p4,rfl,rfl,rfl⟩:=h;have:dV 1 (v1,v2,v3) [] [] 0 args=true:=by
     simp only[dV,if_pos,he,p4,p5];simp;omega
    rw[this];rfl
  by_cases h2:k=2
  ·subst h2;refine d1m (bn:=mO n) (bt:=mO t) (fun w=>b4a n hln.2 w) (fun w=>b4a t hln.1 w) HA (fun h=>?_) (fun h=>?_)
   ·rw[Bool.and_eq_false_iff];refine .inl ?_;cases hr:dV 2 (v1,v2,v3) t n o args
    ·rfl
    ·exfalso;apply h;simp[dV,he] at hr;obtain⟨⟨⟨⟨⟨p1,p1',p1''⟩,p2⟩,p3⟩,p4⟩,p5⟩:=hr;exact⟨p4,p5,by rw[p3];rfl,p1,p1',p1'',p2⟩
   ·obtain⟨p4,p5,p3,rfl,rfl,rfl,rfl⟩:=h;have:dV 2 (0,0,[]) t n 0 args=true:=by
     simp only[dV,he,p3,p4];rcases p5 with rfl|p5
     ·simp
     ·simp[p5]
    rw[this];rfl
  by_cases h3:k=3
  ·subst h3;have hon:bI o≠[]↔(1<=o/\o<=20):=by
    constructor
    ·intro h;by_cases ho:1<=o/\o<=20
     ·exact ho
     ·exact absurd (c1s ho) h
    ·intro h;rcases twenty h with rfl|rfl|rfl|rfl|rfl|rfl|rfl|rfl|rfl|rfl|rfl|rfl|rfl|rfl|rfl|rfl|rfl|rfl|rfl|rfl<;>decide
   refine d1l (fun w=>a4l o w) HA (fun h=>?_) (fun h=>?_)
   ·rw[Bool.and_eq_false_iff];refine .inl ?_;cases hr:dV 3 (v1,v2,v3) t n o args
    ·rfl
    ·exfalso;apply h;simp[dV] at hr;obtain⟨⟨⟨⟨⟨p1,p1',p1''⟩,p2⟩,p3⟩,p4⟩,p5⟩:=hr;exact⟨hon.2 p4,p5,p1,p1',p1'',p2,p3⟩
   ·obtain⟨p4,p5,rfl,rfl,rfl,rfl,rfl⟩:=h;have:dV 3 (0,0,[]) [] [] o args=true:=by
     have:=hon.1 p4;simp[dV,p5,this]
    rw[this];rfl
  by_cases h4:k=4
  ·subst h4;refine d1k HA (fun h=>?_) (fun h=>?_)
   ·rw[Bool.and_eq_false_iff];refine .inl ?_;cases hr:dV 4 (v1,v2,v3) t n o args
    ·rfl
    ·exfalso;apply h;simp[dV] at hr;obtain⟨⟨⟨⟨⟨p1,p1',p1''⟩,p2⟩,p3⟩,p4⟩,p5⟩:=hr;exact⟨by simpa using p5,p3,p1,p1',p1'',p2,p4⟩
   ·obtain⟨p5,rfl,rfl,rfl,rfl,rfl,rfl⟩:=h;have:dV 4 (0,0,[]) [] [] 0 args=true:=by
     simp[dV];simpa using p5
    rw[this];rfl
  by_cases h5:k=5
  ·subst h5;by_cases hc:n=gX
   ·subst hc;refine d0z HA (fun h=>?_) (fun h=>?_)
    ·rw[Bool.and_eq_false_iff];refine .inl ?_;cases hr:dV 5 (v1,v2,v3) t gX o args
     ·rfl
     ·exfalso;apply h;simp[dV,gP,he] at hr;obtain⟨⟨⟨⟨p1,p1',p1''⟩,p2⟩,p3⟩,p4⟩:=hr;exact⟨by rcases p4 with p4|p4<;>first |omega|(rw[p4];simp),p1,p1',p1'',p2,p3⟩
    ·obtain⟨p5,rfl,rfl,rfl,rfl,rfl⟩:=h;have:dV 5 (0,0,[]) [] gX 0 args=true:=by
      have hl:args.length=1\/args.length=0:=(by omega);simp only[dV,he];rcases hl with hl|hl<;>simp[hl,gP]
     rw[this];rfl
   by_cases hs:n=c1m\/n=c1n\/n=c1o
   ·refine d0x hs HA (fun h=>?_) (fun h=>?_)
    ·rw[Bool.and_eq_false_iff];refine .inl ?_;cases hr:dV 5 (v1,v2,v3) t n o args
     ·rfl
     ·exfalso;apply h;simp[dV,hc] at hr;obtain⟨⟨⟨⟨⟨p1,p1',p1''⟩,p2⟩,p3⟩,_⟩,p4⟩:=hr;exact⟨p4,p1,p1',p1'',p2,p3⟩
    ·obtain⟨p5,rfl,rfl,rfl,rfl,rfl⟩:=h;have:dV 5 (0,0,[]) [] n 0 args=true:=by
      have hm:gP.contains n=true:=by rcases hs with rfl|rfl|rfl<;>decide
      simp only[dV,hm,p5];simp
     rw[this];rfl
   ·have hf:dV 5 (v1,v2,v3) t n o args=false:=by
     have hm:gP.contains n=false:=by
      cases hh:gP.contains n
      ·rfl
      ·exfalso;simp[gP] at hh;rcases hh with h|h|h|h
       ·exact hc h
       ·exact hs (.inl h)
       ·exact hs (.inr (.inl h))
       ·exact hs (.inr (.inr h))
     simp only[dV,hm];simp
    rw[hf];exact d0y hc (fun h=>hs (.inl h)) (fun h=>hs (.inr (.inl h))) (fun h=>hs (.inr (.inr h)))
  ·have hf:dV k (v1,v2,v3) t n o args=false:=by
    unfold dV;rw[if_neg h1,if_neg h2,if_neg h3,if_neg h4,if_neg h5]
   rw[hf];exact d1o h1 h2 h3 h4 h5
end
end Go.Proofs.YtkimpcmkminffaaGreatDoor
