/- Texts beside the shared ones. -/
import Derived.Test.YtfkekkgfmhcanaaGreatDoorTS
import Derived.Test.YtfkekkgfmhcanaaGreatDoorTA
import Derived.Test.YtfkekkgfmhcanaaGreatDoorTB
import Derived.Test.YtfkekkgfmhcanaaGreatDoorTC
import Derived.Test.YtfkekkgfmhcanaaGreatDoorTD
import Derived.Test.YtfkekkgfmhcanaaGreatDoorTE
import Derived.Test.YtfkekkgfmhcanaaGreatDoorTF
import Derived.Test.YtfkekkgfmhcanaaGreatDoorTG
import Derived.Test.YtfkekkgfmhcanaaGreatDoorTH
import Derived.Test.YtfkekkgfmhcanaaGreatDoorTI
import Derived.Test.YtfkekkgfmhcanaaGreatDoorTJ
import Derived.Test.YtfkekkgfmhcanaaGreatDoorWZP
import Derived.Lib.MinMax
namespace Go.Proofs.YtfkekkgfmhcanaaGreatDoor
open Go.RowKit
open _root_.Array renaming getElem?_eq_some_iff->aC
open _root_.Go.Lib renaming hid->aB
open _root_.List renaming drop_length->dO,getElem_mem->dS
open _root_.Nat renaming zero_le->dL
set_option maxRecDepth 100000
set_option maxHeartbeats 4000000
section
theorem parts17_any:∀(m:Nat) (x:Ex),SizeOf.sizeOf x<=m->∀(q:Int) (most:Nat) (W:World) (v:Value),q=(most:Int)->most<=1000->eO W x v->Calls Tryz.prog 32 #[v,.int .i64 q] W fun e w'=>e= .returned (.int .i64 (partsV 200 most x:Int))/\Bl W w'
 |0,x,h,_,_,_,_,_,_,_=>by cases x;simp at h
 |m+1,x,hx,q,most,W,v,hq,hm,hv=>by
  subst hq;obtain⟨sv,rfl,hL⟩:=hv;obtain⟨a,cap,rfl,hc⟩:=hL.shape;have IH:Hid (∀y∈x.args,∀(q:Int) (most:Nat) (W:World) (v:Value),q=(most:Int)->most<=1000->eO W y v->Calls Tryz.prog 32 #[v,.int .i64 q] W fun e w'=>e= .returned (.int .i64 (partsV 200 most y:Int))/\Bl W w'):=fun y hy=>parts17_any m y (by have:=b2r hy;omega);have HC:=aB hc;clear hc hL hx;obtain⟨k,⟨v1,v2,v3⟩,t,nm,o,args⟩:=x;simp only[Ex.k,Ex.v,Ex.t,Ex.n,Ex.o,Ex.args] at *;by_cases hb1:200<v3.length
  ·have h1:(200:Int)<(v3.length:Int):=by omega
   have HE:Hid ((partsV 200 most (.mk k (v1,v2,v3) t nm o args):Int)=(most:Int)+1):=(by show _=_;simp[partsV,c7h,hb1]);rw[HE.o];clear hb1;go_enter Tryz.func32,Tryz.ntmps32;go_wp2;go_ret;exact⟨by go_num,(Bl.refl W).alloc _⟩
  by_cases hb2:100<t.length
  ·have h1:¬(200:Int)<(v3.length:Int):=by omega
   have h2:(100:Int)<(t.length:Int):=(by omega);have HE:Hid ((partsV 200 most (.mk k (v1,v2,v3) t nm o args):Int)=(most:Int)+1):=(by show _=_;simp[partsV,c7h,hb2]);rw[HE.o];clear hb1 hb2;go_enter Tryz.func32,Tryz.ntmps32;go_wp2;go_ret;exact⟨by go_num,(Bl.refl W).alloc _⟩
  by_cases hb3:100<nm.length
  ·have h1:¬(200:Int)<(v3.length:Int):=by omega
   have h2:¬(100:Int)<(t.length:Int):=(by omega);have h3:(100:Int)<(nm.length:Int):=(by omega);have HE:Hid ((partsV 200 most (.mk k (v1,v2,v3) t nm o args):Int)=(most:Int)+1):=(by show _=_;simp[partsV,c7h,hb3]);rw[HE.o];clear hb1 hb2 hb3;go_enter Tryz.func32,Tryz.ntmps32;go_wp2;go_ret;exact⟨by go_num,(Bl.refl W).alloc _⟩
  have h1:¬(200:Int)<(v3.length:Int):=(by omega);have h2:¬(100:Int)<(t.length:Int):=(by omega);have h3:¬(100:Int)<(nm.length:Int):=(by omega);have HE:Hid (partsV 200 most (.mk k (v1,v2,v3) t nm o args)=pVs 200 most 1 args):=(by show _=_;simp[partsV,c7h,hb1,hb2,hb3]);rw[HE.o];clear hb1 hb2 hb3 HE;obtain⟨R,HRR⟩:∃R,Hid (pVs 200 most 1 args=R):=⟨_,rfl⟩
  rw[HRR.o];go_enter Tryz.func32,Tryz.ntmps32;go_wp2_with fail;clear h1 h2 h3;go_loopw [5,6] (fun n i wr=>∃j z:Nat,j<=args.length/\j<z/\z<=most+1/\n= .int .i64 (z:Int)/\i= .int .i64 (j:Int)/\Hid (R=pVs 200 most z (args.drop j))/\Bl W wr/\
   Hid (wr.heap[W.heap.size]?=some (.cells #[.int .i64 k,.int .i64 v1,.int .i64 v2,S v3,S t,S nm,.int .i64 o,.slice a args.length cap] 33 (0,0)))) (fun _ i _=>args.length-(intOf i).toNat)
  case atStart=>exact⟨0,1,dL _,by omega,by omega,rfl,rfl,HRR.o.symm,(Bl.refl W).alloc _,aN _ _⟩
  case round=>
   obtain⟨j,z,hj,hjz,hz,rfl,rfl,HD,hB,HX⟩:=hrel;obtain⟨⟨-,-,-,-,-,-,-,c7⟩,-⟩:=eight HX.o;by_cases hlt:j<args.length
   ·have hltI:(j:Int)<(args.length:Int):=by omega
    by_cases hzm:z<=most
    ·have hzI:(z:Int)<=(most:Int):=by omega
     obtain⟨b,off,s,rfl,h8,hr⟩:=HC.o j hlt;have HB:=aB hB;have HY:=aB (IH.o _ (dS hlt));have HDj:=aB (c7t (lim:=200) hlt hzm);have HPL:=aB (c9o 200 (most-z) args[j]);have HR:=aB (hr.bl hB);obtain⟨e0,e1,e2,e3,e4,e5,e6,e7⟩:=h8.bl hB;clear h8 hr hB;generalize hy:args[j]=y at *;clear hy;obtain⟨k',⟨v1',v2',v3'⟩,t',nm',o',args'⟩:=y;simp only[Ex.k,Ex.v,Ex.t,Ex.n,Ex.o] at e0 e1 e2 e3 e4 e5 e6;go_wp2_with fail;have hRE:eO wr (.mk k' (v1',v2',v3') t' nm' o' args') (EV k' (v1',v2',v3') t' nm' o' s):=⟨s,rfl,HR.o⟩
     (with_reducible refine(HY.o _ (most-z) _ _ (by go_num) (by omega) hRE).mono ?_)
     rintro e w1 ⟨rfl,hb1⟩;have HB1:=aB (HB.o.call hb1);have HX1:=aB ((hb1.block _ (aC.1 HX.o).1).trans HX.o);clear hb1 e0 e1 e2 e3 e4 e5 e6 e7 c7;obtain⟨g,HG⟩:∃g,Hid (partsV 200 (most-z) (.mk k' (v1',v2',v3') t' nm' o' args')=g):=⟨_,rfl⟩
     rw[HG.o];have hg:1<=g/\g<=most-z+1:=(by have:=HPL.o;rw[HG.o] at this;exact this);go_wp2;go_roundw
     case rel=>exact⟨j+1,z+g,by omega,by omega,by omega,by go_num,by go_num,by show _=_;rw[HD.o,HDj.o,HG.o],HB1.o,HX1.o⟩
     case measure=>simp[intOf];omega
    ·have hzI:¬(z:Int)<=(most:Int):=by omega
     have HE:Hid (R=z):=(by show _=_;rw[HD.o,c7s (by omega)]);go_wp2;go_ret;exact⟨by rw[HE.o]<;>rfl,hB⟩
   ·have hltI:¬(j:Int)<(args.length:Int):=by omega
    obtain rfl:j=args.length:=(by omega);have HE:Hid (R=z):=(by show _=_;rw[HD.o,dO];simp only[pVs]);go_wp2;go_ret;exact⟨by rw[HE.o]<;>rfl,hB⟩
end
end Go.Proofs.YtfkekkgfmhcanaaGreatDoor
