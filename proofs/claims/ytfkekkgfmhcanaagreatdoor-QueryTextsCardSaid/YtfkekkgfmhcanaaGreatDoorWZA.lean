/- Texts beside the shared ones. -/
import Derived.Test.YtfkekkgfmhcanaaGreatDoorTS
import Derived.Test.YtfkekkgfmhcanaaGreatDoorTA
import Derived.Test.YtfkekkgfmhcanaaGreatDoorTB
import Derived.Test.YtfkekkgfmhcanaaGreatDoorTC
import Derived.Test.YtfkekkgfmhcanaaGreatDoorTD
import Derived.Test.YtfkekkgfmhcanaaGreatDoorTE
import Derived.Test.YtfkekkgfmhcanaaGreatDoorTF
import Derived.Test.YtfkekkgfmhcanaaGreatDoorTG
import Derived.Test.YtfkekkgfmhcanaaGreatDoorTH
import Derived.Test.YtfkekkgfmhcanaaGreatDoorTI
import Derived.Test.YtfkekkgfmhcanaaGreatDoorTJ
namespace Go.Proofs.YtfkekkgfmhcanaaGreatDoor
open Go.RowKit
open _root_.Go.Lib renaming hid->aB
open _root_.List renaming drop_length->dO,getElem_mem->dS
open _root_.Nat renaming zero_le->dL
set_option maxRecDepth 100000
set_option maxHeartbeats 4000000
section
theorem d0d{W:World}{a:Option Addr}{cap:Nat}{l:List Ex}(hlen:l.length<=1000000)(hR:gU W (.slice a l.length cap) l)(hf:∀y∈l,∀(W':World) (v:Value),Bl W W'->eO W' y v->Calls Tryz.prog 69 #[v] W' fun e w'=>e= .returned (.bool (a0z y))/\Bl W' w'):
  Calls Tryz.prog 181 #[.slice a l.length cap,.func (.func 69) #[] #[]] W fun e w'=>(∃z:Int,e= .returned (.int .i64 z)/\decide (0<=z)=sD l)/\Bl W w':=by
 have hen:∀(args:Array Value) (w:World),(callFunc 69 args).run Tryz.prog w= .ok (.enter 69 args) w:=fun args w=>(by simp[go_sem]);obtain⟨a',cap',e,hc⟩:=hR.shape;obtain⟨rfl,rfl⟩:a=a'/\cap=cap':=(by simpa using e);have HC:=aB hc;have HF:=aB hf;clear hR hc hf e;go_enter Tryz.func181,Tryz.ntmps181;go_wp2_with fail;go_loopw [8] (fun i wr=>∃j:Nat,j<=l.length/\i= .int .i64 (j:Int)/\Hid (sD l=sD (l.drop j))/\Hid (Bl W wr)) (fun i _=>l.length-(intOf i).toNat)
 case atStart=>exact⟨0,dL _,rfl,rfl,Bl.refl W⟩
 case round=>
  obtain⟨j,hj,rfl,HD,HB⟩:=hrel;by_cases hlt:j<l.length
  ·obtain⟨b,off,s,rfl,h8,hr⟩:=HC.o j hlt;have HDj:=aB (b3m hlt);have HM:=aB (dS hlt);have HR:=aB (hr.bl HB.o);obtain⟨e0,e1,e2,e3,e4,e5,e6,e7⟩:=h8.bl HB.o;have hlt':(j:Int)<(l.length:Int):=(by omega);clear h8 hr;generalize l[j]=y at *;obtain⟨k',⟨v1',v2',v3'⟩,t',nm',o',args'⟩:=y;simp only[Ex.k,Ex.v,Ex.t,Ex.n,Ex.o] at e0 e1 e2 e3 e4 e5 e6;go_wp2_with fail;have hRE:eO wr (.mk k' (v1',v2',v3') t' nm' o' args') (EV k' (v1',v2',v3') t' nm' o' s):=⟨s,rfl,HR.o⟩
   refine(HF.o _ HM.o _ _ HB.o hRE).mono ?_;rintro e w1 ⟨rfl,hb1⟩;have HB1:=aB (HB.o.call hb1);clear hb1 hRE e0 e1 e2 e3 e4 e5 e6 e7;cases hs:a0z (.mk k' (v1',v2',v3') t' nm' o' args')
   ·have HN:=aB (show sD l=sD (l.drop (j+1)) from by rw[HD.o,HDj.o,hs,Bool.false_or]);clear hs;go_wp2;go_roundw
    case rel=>exact⟨j+1,by omega,by go_num,HN.o,HB1.o⟩
    case measure=>simp[intOf];omega
   ·have HN:=aB (show decide (0<=(j:Int))=sD l from by rw[HD.o,HDj.o,hs,Bool.true_or];simp);clear hs;go_wp2;go_ret;exact⟨⟨_,rfl,HN.o⟩,HB1.o⟩
  ·obtain rfl:j=l.length:=by omega
   have HN:=aB (show decide (0<=(-1:Int))=sD l from by rw[HD.o,dO];rfl);go_wp2;go_ret;exact⟨⟨_,rfl,HN.o⟩,HB.o⟩
theorem c9a:∀(n:Nat) (x:Ex),fC x<=n->n<=1000000->∀(W:World) (v:Value),eO W x v->Calls Tryz.prog 69 #[v] W fun e w'=>e= .returned (.bool (a0z x))/\Bl W w'
 |0,x,h,_,_,_,_=>by have:=oM x;omega
 |n+1,x,hx,hn,W,v,hv=>by
  obtain⟨sv,rfl,hL⟩:=hv;have IH:Hid (∀y∈x.args,∀(W':World) (v:Value),Bl W W'->eO W' y v->Calls Tryz.prog 69 #[v] W' fun e w'=>e= .returned (.bool (a0z y))/\Bl W' w'):=fun y hy W' v _ hv=>c9a n y (by have:=sH hy;omega) (by omega) W' v hv;have hlen:x.args.length<=1000000:=(by have:=sG x;omega);obtain⟨k,⟨v1,v2,v3⟩,t,nm,o,args⟩:=x
  replace hlen:args.length<=1000000:=hlen
  replace hL:gU W sv args:=hL
  obtain⟨a,cap,rfl,-⟩:=hL.shape;have HI:Hid (∀w,Bl W w->Calls Tryz.prog 181 #[.slice a args.length cap,.func (.func 69) #[] #[]] w fun e w'=>(∃z:Int,e= .returned (.int .i64 z)/\decide (0<=z)=sD args)/\Bl w w'):=fun w hb=>d0d hlen (hL.bl hb) fun y hy W' v hb' hv=>IH.o y hy W' v (hb.call hb') hv;show Calls Tryz.prog 69 #[EV k (v1,v2,v3) t nm o (.slice a args.length cap)] W fun e w'=>e= .returned (.bool (a0z (.mk k (v1,v2,v3) t nm o args)))/\Bl W w';have HS:Hid (a0z (.mk k (v1,v2,v3) t nm o args)=(k==5||sD args)):=(by show _=_;simp only[a0z]);rw[HS.o];generalize sD args=bs at *;clear hL hx IH hlen;generalize args.length=m at *;have HCt:Hid (∀w,Bl W w->Calls Tryz.prog 140 #[.slice a m cap,.func (.func 69) #[] #[]] w fun e w'=>e= .returned (.bool bs)/\Bl w w'):=fun w hb=>by
   have H1:=aB (HI.o w hb);clear HI;go_enter Tryz.func140,Tryz.ntmps140;go_wp2_with fail;refine H1.o.mono ?_;rintro e w1 ⟨⟨z,rfl,hz⟩,hb1⟩;have HZ:=aB hz;clear hz;go_wp2;go_ret;exact⟨by rw[<-HZ.o];rfl,hb1⟩
  clear HI;by_cases h5:k=5
  ·subst h5;go_enter Tryz.func69,Tryz.ntmps69;go_wp2;go_ret;exact⟨rfl,(Bl.refl W).alloc _⟩
  ·have hb5:(k==5)=false:=by simpa using h5
   rw[hb5,Bool.false_or];clear h5;go_enter Tryz.func69,Tryz.ntmps69;go_wp2_with fail;refine(HCt.o _ ((Bl.refl W).alloc _)).mono ?_;rintro e w1 ⟨rfl,hb1⟩;go_wp2;go_ret;exact⟨rfl,((Bl.refl W).alloc _).call hb1⟩
end
end Go.Proofs.YtfkekkgfmhcanaaGreatDoor
