/- Texts beside the shared ones. -/
import Derived.Test.YtkimpcmkminffaaGreatDoorWX0
import Derived.Test.YtkimpcmkminffaaGreatDoorWM1
namespace Go.Proofs.YtkimpcmkminffaaGreatDoor
open Go.RowKit
open _root_.And renaming intro->bT
open _root_.Array renaming getElem?_eq_some_iff->aC
open _root_.Bool renaming and_eq_true->aQ
open _root_.Go.Lib renaming hid->aB
open _root_.List renaming drop_length->dO,getElem_mem->dS
open _root_.Nat renaming zero_le->dL
set_option maxRecDepth 100000
set_option maxHeartbeats 16000000
section
theorem wSums_any:∀(n:Nat) (x:Bd),partsD x<=n->n<=1000000->∀(W:World) (v:Value),ReadsD W x v->Calls Tryz.prog 18 #[v] W fun e w'=>e= .returned (.bool (sumsD x))/\Bl W w'
 |0,x,h,_,_,_,_=>by have:=partsD_pos x;omega
 |n+1,x,hx,hn,W,v,hv=>by
  obtain⟨sv,rfl,hL⟩:=hv;obtain⟨a,cap,rfl,hc⟩:=hL.shape;have IH:=aB (wSums_any n);have HC:=aB hc;have hlen:x.args.length<=1000000:=(by have:=partsD_len x;omega);have HP:=aB (show ∀y∈x.args,partsD y<=n from fun y hy=>by have:=partsD_arg hy;omega);clear hc hL hx;obtain⟨k,t,⟨v1,v2,v3⟩,pt,o,nm,args⟩:=x;simp only[Bd.k,Bd.t,Bd.v,Bd.p,Bd.o,Bd.n,Bd.args] at *;by_cases h5:k=5
  ·subst h5;clear hlen;go_enter Tryz.func18,Tryz.ntmps18;go_wp2;go_ret;exact⟨by simp[sumsD],(Bl.refl W).alloc _⟩
  ·have hb5:(k==5)=false:=by simpa using h5
   have HS:Hid (sumsD (.mk k t (v1,v2,v3) pt o nm args)=sumssD args):=(by show _=_;simp only[sumsD];rw[hb5];rfl);clear h5;go_enter Tryz.func18,Tryz.ntmps18;go_wp2_with fail;go_loopw [3] (fun i wr=>∃j:Nat,j<=args.length/\i= .int .i64 (j:Int)/\Hid (sumssD args=sumssD (args.drop j))/\Bl W wr/\
    Hid (wr.heap[W.heap.size]?=some (.cells #[.int .i64 k,.int .i64 t,.int .i64 v1,.int .i64 v2,S v3,.int .i64 pt,.int .i64 o,S nm,.slice a args.length cap] 30 (0,0)))) (fun i _=>args.length-(intOf i).toNat)
   case atStart=>exact⟨0,dL _,rfl,by simp[Hid],(Bl.refl W).alloc _,aN _ _⟩
   case round=>
    obtain⟨j,hj,rfl,HD,hB,HX⟩:=hrel;obtain⟨-,-,-,-,-,-,-,-,c7⟩:=nine HX.o;by_cases hlt:j<args.length
    ·obtain⟨b,off,s,rfl,-,hbl,h8,hr⟩:=HC.o j hlt;have HB:=aB hB;have HY:=aB (HP.o _ (dS hlt));have HDj:=aB (sumssD_drop hlt);have HR:=aB (hr.bl hB);obtain⟨e0,e1,e2,e3,e4,e5,e6,e7,e8⟩:=(h8.keep (hB.block b hbl)).nine;clear h8 hr hB;generalize hy:args[j]=y at *;clear hy;obtain⟨k',t',⟨v1',v2',v3'⟩,pt',o',nm',args'⟩:=y;simp only[Bd.k,Bd.t,Bd.v,Bd.p,Bd.o,Bd.n] at e0 e1 e2 e3 e4 e5 e6 e7;go_wp2_with fail;have hRE:ReadsD wr (.mk k' t' (v1',v2',v3') pt' o' nm' args') (BdV k' t' (v1',v2',v3') pt' o' nm' s):=⟨s,rfl,HR.o⟩
     (with_reducible refine(IH.o _ HY.o (by omega) _ _ hRE).mono ?_)
     rintro e w1 ⟨rfl,hb1⟩;have HB1:=aB (HB.o.call hb1);have HX1:=aB ((hb1.block _ (aC.1 HX.o).1).trans HX.o);clear hb1 e0 e1 e2 e3 e4 e5 e6 e7 e8 c7;have hj1:(j:Int)<(args.length:Int):=(by omega);cases hs:sumsD (.mk k' t' (v1',v2',v3') pt' o' nm' args')
     ·have HF:=aB hs;clear hs;go_wp2;go_roundw
      case rel=>exact⟨j+1,by omega,by go_num,by show _=_;rw[HD.o,HDj.o,HF.o];rfl,HB1.o,HX1.o⟩
      case measure=>simp[intOf];omega
     ·have HF:=aB hs;clear hs;go_wp2;go_ret;exact⟨by rw[HS.o,HD.o,HDj.o,HF.o];rfl,HB1.o⟩
    ·obtain rfl:j=args.length:=by omega
     have HE:Hid (sumsD (.mk k t (v1,v2,v3) pt o nm args)=false):=(by show _=_;rw[HS.o,HD.o,dO];rfl);go_wp2;go_ret;exact⟨by rw[HE.o];rfl,hB⟩
theorem wSame_any:∀(n:Nat) (x y:Bd),partsD x<=n->n<=1000000->∀(W:World) (v u:Value),ReadsD W x v->ReadsD W y u->Calls Tryz.prog 16 #[v,u] W fun e w'=>e= .returned (.bool (sameD x y))/\Bl W w'
 |0,x,_,h,_,_,_,_,_,_=>by have:=partsD_pos x;omega
 |n+1,x,y,hx,hn,W,v,u,hv,hu=>by
  obtain⟨sv,rfl,hL⟩:=hv;obtain⟨a,cap,rfl,hc⟩:=hL.shape;obtain⟨su,rfl,hM⟩:=hu;obtain⟨a2,cap2,rfl,hc2⟩:=hM.shape;have IH:=aB (wSame_any n);have HC:=aB hc;have HC2:=aB hc2;have hlen:x.args.length<=1000000:=(by have:=partsD_len x;omega);have HP:=aB (show ∀y∈x.args,partsD y<=n from fun y hy=>by have:=partsD_arg hy;omega);clear hc hL hx hc2 hM;obtain⟨k,t,⟨v1,v2,v3⟩,pt,o,nm,args⟩:=x;obtain⟨k2,t2,⟨u1,u2,u3⟩,pt2,o2,nm2,args2⟩:=y;simp only[Bd.k,Bd.t,Bd.v,Bd.p,Bd.o,Bd.n,Bd.args] at *;by_cases hk:k=k2
  case neg=>
   have HE:Hid (sameD (.mk k t (v1,v2,v3) pt o nm args) (.mk k2 t2 (u1,u2,u3) pt2 o2 nm2 args2)=false):=(by show _=_;simp[sameD,hk]);have hb:(k==k2)=false:=(by simpa using hk);have hb':(k != k2)=true:=(by simpa using hk);clear hlen;go_enter Tryz.func16,Tryz.ntmps16;go_wp2;go_ret;exact⟨by rw[HE.o];rfl,((Bl.refl W).alloc _).alloc _⟩
  subst hk;by_cases ht:t=t2
  case neg=>
   have HE:Hid (sameD (.mk k t (v1,v2,v3) pt o nm args) (.mk k t2 (u1,u2,u3) pt2 o2 nm2 args2)=false):=(by show _=_;simp[sameD,ht]);have hb:(t==t2)=false:=(by simpa using ht);have hb':(t != t2)=true:=(by simpa using ht);clear hlen;go_enter Tryz.func16,Tryz.ntmps16;go_wp2;go_ret;exact⟨by rw[HE.o];rfl,((Bl.refl W).alloc _).alloc _⟩
  subst ht;by_cases hv1:v1=u1
  case neg=>
   have HE:Hid (sameD (.mk k t (v1,v2,v3) pt o nm args) (.mk k t (u1,u2,u3) pt2 o2 nm2 args2)=false):=(by show _=_;simp[sameD,hv1]);have hb:(v1==u1)=false:=(by simpa using hv1);have hb':(v1 != u1)=true:=(by simpa using hv1);clear hlen;go_enter Tryz.func16,Tryz.ntmps16;go_wp2;go_ret;exact⟨by rw[HE.o];rfl,((Bl.refl W).alloc _).alloc _⟩
  subst hv1;by_cases hv2:v2=u2
  case neg=>
   have HE:Hid (sameD (.mk k t (v1,v2,v3) pt o nm args) (.mk k t (v1,u2,u3) pt2 o2 nm2 args2)=false):=(by show _=_;simp[sameD,hv2]);have hb:(v2==u2)=false:=(by simpa using hv2);have hb':(v2 != u2)=true:=(by simpa using hv2);clear hlen;go_enter Tryz.func16,Tryz.ntmps16;go_wp2;go_ret;exact⟨by rw[HE.o];rfl,((Bl.refl W).alloc _).alloc _⟩
  subst hv2;by_cases hv3:v3=u3
  case neg=>
   have HE:Hid (sameD (.mk k t (v1,v2,v3) pt o nm args) (.mk k t (v1,v2,u3) pt2 o2 nm2 args2)=false):=(by show _=_;simp[sameD,hv3]);have hb:(v3==u3)=false:=(by simpa using hv3);have hb':(v3 != u3)=true:=(by simpa using hv3);clear hlen;go_enter Tryz.func16,Tryz.ntmps16;go_wp2;go_ret;exact⟨by rw[HE.o];rfl,((Bl.refl W).alloc _).alloc _⟩
  subst hv3;by_cases hp:pt=pt2
  case neg=>
   have HE:Hid (sameD (.mk k t (v1,v2,v3) pt o nm args) (.mk k t (v1,v2,v3) pt2 o2 nm2 args2)=false):=(by show _=_;simp[sameD,hp]);have hb:(pt==pt2)=false:=(by simpa using hp);have hb':(pt != pt2)=true:=(by simpa using hp);clear hlen;go_enter Tryz.func16,Tryz.ntmps16;go_wp2;go_ret;exact⟨by rw[HE.o];rfl,((Bl.refl W).alloc _).alloc _⟩
  subst hp;by_cases ho:o=o2
  case neg=>
   have HE:Hid (sameD (.mk k t (v1,v2,v3) pt o nm args) (.mk k t (v1,v2,v3) pt o2 nm2 args2)=false):=(by show _=_;simp[sameD,ho]);have hb:(o==o2)=false:=(by simpa using ho);have hb':(o != o2)=true:=(by simpa using ho);clear hlen;go_enter Tryz.func16,Tryz.ntmps16;go_wp2;go_ret;exact⟨by rw[HE.o];rfl,((Bl.refl W).alloc _).alloc _⟩
  subst ho;by_cases hnm:nm=nm2
  case neg=>
   have HE:Hid (sameD (.mk k t (v1,v2,v3) pt o nm args) (.mk k t (v1,v2,v3) pt o nm2 args2)=false):=(by show _=_;simp[sameD,hnm]);have hb:(nm==nm2)=false:=(by simpa using hnm);have hb':(nm != nm2)=true:=(by simpa using hnm);clear hlen;go_enter Tryz.func16,Tryz.ntmps16;go_wp2;go_ret;exact⟨by rw[HE.o];rfl,((Bl.refl W).alloc _).alloc _⟩
  subst hnm;by_cases hl:args.length=args2.length
  case neg=>
   have HE:Hid (sameD (.mk k t (v1,v2,v3) pt o nm args) (.mk k t (v1,v2,v3) pt o nm args2)=false):=by
    show _=_;cases hs:sameD (.mk k t (v1,v2,v3) pt o nm args) (.mk k t (v1,v2,v3) pt o nm args2)
    ·rfl
    ·simp only[sameD,aQ] at hs;exact absurd (samesD_len hs.2) hl
   have hl':¬(args.length:Int)=(args2.length:Int):=(by omega);have hb:((args.length:Int)==(args2.length:Int))=false:=(by simpa using hl');have hb':((args.length:Int) != (args2.length:Int))=true:=(by simpa using hl');clear hlen;go_enter Tryz.func16,Tryz.ntmps16;go_wp2;go_ret;exact⟨by rw[HE.o];rfl,((Bl.refl W).alloc _).alloc _⟩
  have HLE:=aB hl;have HS:Hid (sameD (.mk k t (v1,v2,v3) pt o nm args) (.mk k t (v1,v2,v3) pt o nm args2)=samesD args args2):=(by show _=_;simp[sameD]);rw[<-hl];clear hl;go_enter Tryz.func16,Tryz.ntmps16;go_wp2_with fail;go_loopw [5] (fun i wr=>∃j:Nat,j<=args.length/\i= .int .i64 (j:Int)/\Hid (samesD args args2=samesD (args.drop j) (args2.drop j))/\Bl W wr/\
   Hid (wr.heap[W.heap.size]?=some (.cells #[.int .i64 k,.int .i64 t,.int .i64 v1,.int .i64 v2,S v3,.int .i64 pt,.int .i64 o,S nm,.slice a args.length cap] 30 (0,0)))/\
   Hid (wr.heap[W.heap.size+1]?=some (.cells #[.int .i64 k,.int .i64 t,.int .i64 v1,.int .i64 v2,S v3,.int .i64 pt,.int .i64 o,S nm,.slice a2 args.length cap2] 30 (0,0)))) (fun i _=>args.length-(intOf i).toNat)
  case atStart=>exact⟨0,dL _,rfl,by simp[Hid],((Bl.refl W).alloc _).alloc _,(aW _ _ (by simp)).trans (aN _ _),aV _ _ (by simp)⟩
  case round=>
   obtain⟨j,hj,rfl,HD,hB,HX,HX2⟩:=hrel;obtain⟨-,-,-,-,-,-,-,-,c7⟩:=nine HX.o;obtain⟨-,-,-,-,-,-,-,-,d7⟩:=nine HX2.o;by_cases hlt:j<args.length
   ·obtain⟨b,off,s,rfl,-,hbl,h8,hr⟩:=HC.o j hlt;obtain⟨b2,off2,s2,rfl,-,hbl2,h82,hr2⟩:=HC2.o j (HLE.o▸hlt);have HB:=aB hB;have HY:=aB (HP.o _ (dS hlt));have HDj:=aB (samesD_drop hlt (HLE.o▸hlt));have HR:=aB (hr.bl hB);have HR2:=aB (hr2.bl hB);obtain⟨e0,e1,e2,e3,e4,e5,e6,e7,e8⟩:=(h8.keep (hB.block b hbl)).nine;obtain⟨f0,f1,f2,f3,f4,f5,f6,f7,f8⟩:=(h82.keep (hB.block b2 hbl2)).nine;clear h8 hr hB h82 hr2;generalize hy:args[j]=y at *;clear hy;generalize hz:args2[j]'(HLE.o▸hlt)=z at *;clear hz;obtain⟨k',t',⟨v1',v2',v3'⟩,pt',o',nm',args'⟩:=y;obtain⟨k3,t3,⟨w1',w2',w3'⟩,pt3,o3,nm3,args3⟩:=z;simp only[Bd.k,Bd.t,Bd.v,Bd.p,Bd.o,Bd.n] at e0 e1 e2 e3 e4 e5 e6 e7 f0 f1 f2 f3 f4 f5 f6 f7 f8;have hRE:ReadsD wr (.mk k' t' (v1',v2',v3') pt' o' nm' args') (BdV k' t' (v1',v2',v3') pt' o' nm' s):=⟨s,rfl,HR.o⟩
    have hRE2:ReadsD wr (.mk k3 t3 (w1',w2',w3') pt3 o3 nm3 args3) (BdV k3 t3 (w1',w2',w3') pt3 o3 nm3 s2):=⟨s2,rfl,HR2.o⟩
    have HRE:=aB (bT hRE hRE2);clear hRE hRE2;go_wp2_with fail
    go_still_tail 10,(by kernel_rfl)
    have hbd:Bl wr wr.drew:=(Bl.refl wr).drew;go_wp2_with fail
    (with_reducible refine(IH.o _ _ HY.o (by omega) _ _ _ (HRE.o.1.bl hbd) (HRE.o.2.bl hbd)).mono ?_)
    rintro e w1 ⟨rfl,hb1⟩;have hb2:=hbd.call hb1;have HB1:=aB (HB.o.call hb2);have HX1:=aB ((hb2.block _ (aC.1 HX.o).1).trans HX.o);have HX3:=aB ((hb2.block _ (aC.1 HX2.o).1).trans HX2.o);clear hb1 hb2 hbd e0 e1 e2 e3 e4 e5 e6 e7 e8 c7 d7 f0 f1 f2 f3 f4 f5 f6 f7 f8;have hj1:(j:Int)<(args.length:Int):=(by omega);cases hs:sameD (.mk k' t' (v1',v2',v3') pt' o' nm' args') (.mk k3 t3 (w1',w2',w3') pt3 o3 nm3 args3)
    ·have HF:=aB hs;clear hs;go_wp2;go_ret;exact⟨by rw[HS.o,HD.o,HDj.o,HF.o];rfl,HB1.o⟩
    ·have HF:=aB hs;clear hs;go_wp2;go_roundw
     case rel=>exact⟨j+1,by omega,by go_num,by show _=_;rw[HD.o,HDj.o,HF.o];rfl,HB1.o,HX1.o,HX3.o⟩
     case measure=>simp[intOf];omega
   ·obtain rfl:j=args.length:=by omega
    have HE:Hid (sameD (.mk k t (v1,v2,v3) pt o nm args) (.mk k t (v1,v2,v3) pt o nm args2)=true):=by
     show _=_;rw[HS.o,HD.o,dO,HLE.o,dO];rfl
    go_wp2;go_ret;exact⟨by rw[HE.o];rfl,hB⟩
end
end Go.Proofs.YtkimpcmkminffaaGreatDoor
