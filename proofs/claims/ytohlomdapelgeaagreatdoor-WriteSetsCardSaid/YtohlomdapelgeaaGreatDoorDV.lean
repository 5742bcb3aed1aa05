/- Texts TP. -/
import Derived.Test.YtohlomdapelgeaaGreatDoorDF
import Derived.Test.YtohlomdapelgeaaGreatDoorCK
import Derived.Test.YtohlomdapelgeaaGreatDoorCG
import Derived.Lib.MinMax
namespace Go.Proofs.YtohlomdapelgeaaGreatDoor
open _root_.Go.Proofs.Tryz
open Go.RowKit
open _root_.Array renaming getElem?_eq_some_iff->aC
open _root_.Go.Lib renaming hid->aB
open _root_.List renaming drop_eq_getElem_cons->aZ,drop_length->dO,getElem?_eq_some_iff->aO,getElem_mem->dS
open _root_.Nat renaming le_refl->aH,zero_le->dL
open _root_.Go.Region renaming wanted->jG
set_option maxRecDepth 100000
set_option maxHeartbeats 4000000
section
theorem parts18_any:∀(m:Nat) (x:Ex),SizeOf.sizeOf x<=m->∀(q:Int) (most:Nat) (W:World) (v:Value),q=(most:Int)->most<=1000->eO W x v->eg 28 #[v,.int .i64 q] W fun e w'=>e= .returned (.int .i64 (partsV 200 most x:Int))/\Bl W w'
 |0,x,h,_,_,_,_,_,_,_=>by cases x;simp at h
 |m+1,x,hx,q,most,W,v,hq,hm,hv=>by
  subst hq;obtain⟨sv,rfl,hL⟩:=hv;obtain⟨a,cap,rfl,hc⟩:=hL.shape;have IH:Hid (∀y∈x.args,∀(q:Int) (most:Nat) (W:World) (v:Value),q=(most:Int)->most<=1000->eO W y v->eg 28 #[v,.int .i64 q] W fun e w'=>e= .returned (.int .i64 (partsV 200 most y:Int))/\Bl W w'):=fun y hy=>parts18_any m y (by have:=b2r hy;omega);have HC:=aB hc;clear hc hL hx;obtain⟨k,⟨v1,v2,v3⟩,t,nm,o,args⟩:=x;simp only[Ex.k,Ex.v,Ex.t,Ex.n,Ex.o,Ex.args] at *;by_cases hb1:200<v3.length
  ·have h1:(200:Int)<(v3.length:Int):=by omega
   have HE:Hid ((partsV 200 most (.mk k (v1,v2,v3) t nm o args):Int)=(most:Int)+1):=(by show _=_;simp[partsV,c7h,hb1]);rw[HE.o];clear hb1;go_enter func28,ntmps28;go_wp2;go_ret;exact⟨by go_num,(Bl.refl W).alloc _⟩
  by_cases hb2:100<t.length
  ·have h1:¬(200:Int)<(v3.length:Int):=by omega
   have h2:(100:Int)<(t.length:Int):=aE;have HE:Hid ((partsV 200 most (.mk k (v1,v2,v3) t nm o args):Int)=(most:Int)+1):=(by show _=_;simp[partsV,c7h,hb2]);rw[HE.o];clear hb1 hb2;go_enter func28,ntmps28;go_wp2;go_ret;exact⟨by go_num,(Bl.refl W).alloc _⟩
  by_cases hb3:100<nm.length
  ·have h1:¬(200:Int)<(v3.length:Int):=by omega
   have h2:¬(100:Int)<(t.length:Int):=aE;have h3:(100:Int)<(nm.length:Int):=aE;have HE:Hid ((partsV 200 most (.mk k (v1,v2,v3) t nm o args):Int)=(most:Int)+1):=(by show _=_;simp[partsV,c7h,hb3]);rw[HE.o];clear hb1 hb2 hb3;go_enter func28,ntmps28;go_wp2;go_ret;exact⟨by go_num,(Bl.refl W).alloc _⟩
  have h1:¬(200:Int)<(v3.length:Int):=aE;have h2:¬(100:Int)<(t.length:Int):=aE;have h3:¬(100:Int)<(nm.length:Int):=aE;have HE:Hid (partsV 200 most (.mk k (v1,v2,v3) t nm o args)=pVs 200 most 1 args):=(by show _=_;simp[partsV,c7h,hb1,hb2,hb3]);rw[HE.o];clear hb1 hb2 hb3 HE;obtain⟨R,HRR⟩:∃R,Hid (pVs 200 most 1 args=R):=⟨_,rfl⟩
  rw[HRR.o];go_enter func28,ntmps28;go_wp2_with fail;clear h1 h2 h3;go_loopw [5,6] (fun n i wr=>∃j z:Nat,j<=args.length/\j<z/\z<=most+1/\n= .int .i64 (z:Int)/\i= .int .i64 (j:Int)/\Hid (R=pVs 200 most z (args.drop j))/\Bl W wr/\
   Hid (wr.heap[W.heap.size]?=some (.cells #[.int .i64 k,.int .i64 v1,.int .i64 v2,S v3,S t,S nm,.int .i64 o,.slice a args.length cap] 38 (0,0)))) (fun _ i _=>args.length-(intOf i).toNat)
  case atStart=>exact⟨0,1,dL _,by omega,by omega,rfl,rfl,HRR.o.symm,(Bl.refl W).alloc _,aN _ _⟩
  case round=>
   obtain⟨j,z,hj,hjz,hz,rfl,rfl,HD,hB,HX⟩:=hrel;obtain⟨⟨-,-,-,-,-,-,-,c7⟩,-⟩:=eight HX.o;by_cases hlt:j<args.length
   ·have hltI:(j:Int)<(args.length:Int):=by omega
    by_cases hzm:z<=most
    ·have hzI:(z:Int)<=(most:Int):=by omega
     obtain⟨b,off,s,rfl,h8,hr⟩:=HC.o j hlt;have HB:=aB hB;have HY:=aB (IH.o _ (dS hlt));have HDj:=aB (c7t (lim:=200) hlt hzm);have HPL:=aB (c9o 200 (most-z) args[j]);have HR:=aB (hr.bl hB);obtain⟨e0,e1,e2,e3,e4,e5,e6,e7⟩:=h8.bl hB;clear h8 hr hB;generalize hy:args[j]=y at *;clear hy;obtain⟨k',⟨v1',v2',v3'⟩,t',nm',o',args'⟩:=y;simp only[Ex.k,Ex.v,Ex.t,Ex.n,Ex.o] at e0 e1 e2 e3 e4 e5 e6;go_wp2_with fail;have hRE:eO wr (.mk k' (v1',v2',v3') t' nm' o' args') (EV k' (v1',v2',v3') t' nm' o' s):=⟨s,rfl,HR.o⟩
     (with_reducible refine(HY.o _ (most-z) _ _ (by go_num) aE hRE).mono ?_)
     rintro e w1 ⟨rfl,hb1⟩;have HB1:=aB (HB.o.call hb1);have HX1:=aB ((hb1.block _ (aC.1 HX.o).1).trans HX.o);clear hb1 e0 e1 e2 e3 e4 e5 e6 e7 c7;obtain⟨g,HG⟩:∃g,Hid (partsV 200 (most-z) (.mk k' (v1',v2',v3') t' nm' o' args')=g):=⟨_,rfl⟩
     rw[HG.o];have hg:1<=g/\g<=most-z+1:=(by have:=HPL.o;rw[HG.o] at this;exact this);go_wp2;go_roundw
     case rel=>exact⟨j+1,z+g,by omega,by omega,by omega,by go_num,by go_num,by show _=_;rw[HD.o,HDj.o,HG.o],HB1.o,HX1.o⟩
     case measure=>simp[intOf];omega
    ·have hzI:¬(z:Int)<=(most:Int):=by omega
     have HE:Hid (R=z):=(by show _=_;rw[HD.o,c7s aE]);go_wp2;go_ret;exact⟨by rw[HE.o]<;>rfl,hB⟩
   ·have hltI:¬(j:Int)<(args.length:Int):=by omega
    obtain rfl:j=args.length:=aE;have HE:Hid (R=z):=(by show _=_;rw[HD.o,dO];simp only[pVs]);go_wp2;go_ret;exact⟨by rw[HE.o]<;>rfl,hB⟩
def vast30(x:Ex):Bool:=decide (30<partsV 200 30 x)
def nameF(s:List UInt8):Bool:= !decide (100<s.length)
def exF(x:Ex):Bool:= !vast30 x
def setF(s:St):Bool:=nameF s.n&&exF s.x
def itF(i:It):Bool:=exF i.x&&nameF i.t&&nameF i.al
def fewL{α:Type}(f:α->Bool)(l:List α):Bool:=l.all f&&decide (l.length<=40)
theorem vast18(x:Ex)(W:World)(v:Value)(hv:eO W x v):eg 28 #[v,.int .i64 30] W fun e w'=>e= .returned (.int .i64 (partsV 200 30 x:Int))/\Bl W w':=parts18_any _ x (aH _) 30 30 W v rfl aE hv
theorem all_drop{α:Type}{p:α->Bool}{l:List α}{j:Nat}(h:j<l.length):(l.drop j).all p=(p l[j]&&(l.drop (j+1)).all p):=by
 rw[aZ h,List.all_cons]
theorem names18_any{p:Nat->Prop}{W:World}{v:Value}{l:List (List UInt8)}(hlen:l.length<=9223372036854775807)(hR:RowsG gStr p W v l):eg 25 #[v] W fun e w'=>e= .returned (.bool (fewL nameF l))/\Bl W w':=by
 obtain⟨a,cap,rfl,hc⟩:=hR.shape;have HC:=aB hc;obtain⟨R,HRR⟩:∃R,Hid ((l.all nameF&&decide (l.length<=40))=R):=⟨_,rfl⟩
 show eg 25 _ W fun e w'=>e= .returned (.bool (l.all nameF&&decide (l.length<=40)))/\Bl W w';rw[HRR.o];clear hR hc;go_enter func25,ntmps25;go_wp2_with fail;go_loopw [3] (fun i wr=>∃j:Nat,j<=l.length/\i= .int .i64 (j:Int)/\Hid (R=((l.drop j).all nameF&&decide (l.length<=40)))/\Hid (Bl W wr)) (fun i _=>l.length-(intOf i).toNat)
 case atStart=>exact⟨0,dL _,rfl,HRR.o.symm,Bl.refl W⟩
 case round=>
 obtain⟨j,hj,rfl,HD,HB⟩:=hrel;by_cases hlt:j<l.length;rotate_left
 ·obtain rfl:j=l.length:=by omega
  have hge:¬((l.length:Int)<(l.length:Int)):=aE;by_cases h4:l.length<=40
  ·have h4':(l.length:Int)<=40:=by omega
   have HF:=aB (show R=true from by rw[HD.o,dO,decide_eq_true h4];rfl);clear h4 HD;go_wp2;go_ret;exact⟨by rw[HF.o];first |rfl|(simp;omega),HB.o⟩
  ·have h4':¬((l.length:Int)<=40):=by omega
   have HF:=aB (show R=false from by rw[HD.o,decide_eq_false h4,Bool.and_false]);clear h4 HD;go_wp2;go_ret;exact⟨by rw[HF.o];first |rfl|(simp;omega),HB.o⟩
 have hlt':(j:Int)<(l.length:Int):=aE;obtain⟨b,off,cs,rfl,-,hb,hcs,hlies⟩:=HC.o j hlt;obtain rfl:cs=[S l[j]]:=hlies;have e0:wr.cell? ⟨b,off+j,none⟩=some (S l[j]):=by
  have h:=(hcs.keep (HB.o.block b hb)) 0 _ rfl;simpa[gStr] using h
 have HDj:=aB (HD.o.trans (by rw[all_drop hlt]));clear hcs HD;generalize l[j]=y at *;by_cases h1:100<y.length
 ·have h1':(100:Int)<(y.length:Int):=by omega
  have HN:=aB (show R=false from by rw[HDj.o];simp[nameF,h1]);clear h1 HDj;go_wp2;go_ret;exact⟨by rw[HN.o]<;>rfl,HB.o⟩
 ·have h1':¬(100:Int)<(y.length:Int):=by omega
  have HN:=aB (show R=((l.drop (j+1)).all nameF&&decide (l.length<=40)) from by rw[HDj.o];simp[nameF,h1]);clear h1 HDj;go_wp2;go_roundw
  case rel=>exact⟨j+1,by omega,by go_num,HN.o,HB.o⟩
  case measure=>simp[intOf];omega
theorem exprs18_any{p:Nat->Prop}{W:World}{v:Value}{l:List Ex}(hlen:l.length<=9223372036854775807)(hR:RowsG gEx p W v l):eg 30 #[v] W fun e w'=>e= .returned (.bool (fewL exF l))/\Bl W w':=by
 obtain⟨a,cap,rfl,hc⟩:=hR.shape;have HC:=aB hc;obtain⟨R,HRR⟩:∃R,Hid ((l.all exF&&decide (l.length<=40))=R):=⟨_,rfl⟩
 show eg 30 _ W fun e w'=>e= .returned (.bool (l.all exF&&decide (l.length<=40)))/\Bl W w';rw[HRR.o];clear hR hc;go_enter func30,ntmps30;go_wp2_with fail;go_loopw [3] (fun i wr=>∃j:Nat,j<=l.length/\i= .int .i64 (j:Int)/\Hid (R=((l.drop j).all exF&&decide (l.length<=40)))/\Hid (Bl W wr)) (fun i _=>l.length-(intOf i).toNat)
 case atStart=>exact⟨0,dL _,rfl,HRR.o.symm,Bl.refl W⟩
 case round=>
 obtain⟨j,hj,rfl,HD,HB⟩:=hrel;by_cases hlt:j<l.length;rotate_left
 ·obtain rfl:j=l.length:=by omega
  have hge:¬((l.length:Int)<(l.length:Int)):=aE;by_cases h4:l.length<=40
  ·have h4':(l.length:Int)<=40:=by omega
   have HF:=aB (show R=true from by rw[HD.o,dO,decide_eq_true h4];rfl);clear h4 HD;go_wp2;go_ret;exact⟨by rw[HF.o];first |rfl|(simp;omega),HB.o⟩
  ·have h4':¬((l.length:Int)<=40):=by omega
   have HF:=aB (show R=false from by rw[HD.o,decide_eq_false h4,Bool.and_false]);clear h4 HD;go_wp2;go_ret;exact⟨by rw[HF.o];first |rfl|(simp;omega),HB.o⟩
 have hlt':(j:Int)<(l.length:Int):=aE;obtain⟨b,off,cs,rfl,-,hb,hcs,s,rfl,hs⟩:=HC.o j hlt;have HCS:=aB (hcs.keep (HB.o.block b hb)).range;have HV:=aB (vast18 (l[j]) wr (.agg (qD l[j] s).toArray) ⟨s,rfl,hs.reads.bl HB.o⟩);have HDj:=aB (HD.o.trans (by rw[all_drop hlt]));clear hcs hs HD;generalize l[j]=y at *;go_wp2_with (refine wpList_load_mid rfl 38 (.tmp 12) rfl b (off+j * 8) rfl (qD y s) _ HCS.o underlying38 rfl d4b ?_)
 refine HV.o.mono ?_;rintro e w1 ⟨rfl,hb1⟩;have HB1:=aB (HB.o.call hb1);clear hb1 HV HCS;by_cases h1:30<partsV 200 30 y
 ·have HN:=aB (show R=false from by rw[HDj.o];simp[exF,vast30,h1]);generalize partsV 200 30 y=m at *;have h1':(30:Int)<(m:Int):=aE;clear h1 HDj;go_wp2;go_ret;exact⟨by rw[HN.o]<;>rfl,HB1.o⟩
 ·have HN:=aB (show R=((l.drop (j+1)).all exF&&decide (l.length<=40)) from by rw[HDj.o];simp[exF,vast30,h1]);generalize partsV 200 30 y=m at *;have h1':¬(30:Int)<(m:Int):=aE;clear h1 HDj;go_wp2;go_roundw
  case rel=>exact⟨j+1,by omega,by go_num,HN.o,HB1.o⟩
  case measure=>simp[intOf];omega
theorem sets18_any{p:Nat->Prop}{W:World}{v:Value}{l:List St}(hlen:l.length<=9223372036854775807)(hR:RowsG gSt p W v l):eg 26 #[v] W fun e w'=>e= .returned (.bool (fewL setF l))/\Bl W w':=by
 obtain⟨a,cap,rfl,hc⟩:=hR.shape;have HC:=aB hc;obtain⟨R,HRR⟩:∃R,Hid ((l.all setF&&decide (l.length<=40))=R):=⟨_,rfl⟩
 show eg 26 _ W fun e w'=>e= .returned (.bool (l.all setF&&decide (l.length<=40)))/\Bl W w';rw[HRR.o];clear hR hc;go_enter func26,ntmps26;go_wp2_with fail;go_loopw [3] (fun i wr=>∃j:Nat,j<=l.length/\i= .int .i64 (j:Int)/\Hid (R=((l.drop j).all setF&&decide (l.length<=40)))/\Hid (Bl W wr)) (fun i _=>l.length-(intOf i).toNat)
 case atStart=>exact⟨0,dL _,rfl,HRR.o.symm,Bl.refl W⟩
 case round=>
 obtain⟨j,hj,rfl,HD,HB⟩:=hrel;by_cases hlt:j<l.length;rotate_left
 ·obtain rfl:j=l.length:=by omega
  have hge:¬((l.length:Int)<(l.length:Int)):=aE;by_cases h4:l.length<=40
  ·have h4':(l.length:Int)<=40:=by omega
   have HF:=aB (show R=true from by rw[HD.o,dO,decide_eq_true h4];rfl);clear h4 HD;go_wp2;go_ret;exact⟨by rw[HF.o];first |rfl|(simp;omega),HB.o⟩
  ·have h4':¬((l.length:Int)<=40):=by omega
   have HF:=aB (show R=false from by rw[HD.o,decide_eq_false h4,Bool.and_false]);clear h4 HD;go_wp2;go_ret;exact⟨by rw[HF.o];first |rfl|(simp;omega),HB.o⟩
 have hlt':(j:Int)<(l.length:Int):=aE;obtain⟨b,off,cs,rfl,-,hb,hcs,s,rfl,hs⟩:=HC.o j hlt
 replace hcs:d2k wr b (off+j * 9) (S l[j].n::qD l[j].x s):=hcs.keep (HB.o.block b hb)
 have e0:wr.cell? ⟨b,off+j * 9,none⟩=some (S l[j].n):=(by simpa using hcs 0 _ rfl);have HCS:=aB (show wr.rangeAt b (off+j * 9+1) (qD l[j].x s) from fun i u hu=>by
  have:=hcs (i+1) u (by simpa using hu);rw[show off+j * 9+1+i=off+j * 9+(i+1) by omega];exact this)
 have HV:=aB (vast18 l[j].x wr (.agg (qD l[j].x s).toArray) ⟨s,rfl,hs.reads.bl HB.o⟩);have HDj:=aB (HD.o.trans (by rw[all_drop hlt]));clear hcs hs HD;generalize l[j]=y at *;by_cases h0:100<y.n.length
 ·have h0':(100:Int)<(y.n.length:Int):=by omega
  have HN:=aB (show R=false from by rw[HDj.o];simp[setF,nameF,h0]);clear h0 HDj;go_wp2;go_ret;exact⟨by rw[HN.o]<;>rfl,HB.o⟩
 have h0':¬(100:Int)<(y.n.length:Int):=aE;go_wp2_with (refine wpList_load_midG ar 38 (.tmp 21) rfl b (off+j * 9+1) rfl (qD y.x s) _ HCS.o underlying38 rfl d4b ?_)
 refine HV.o.mono ?_;rintro e w1 ⟨rfl,hb1⟩;have HB1:=aB (HB.o.call hb1);clear hb1 HV HCS e0;by_cases h1:30<partsV 200 30 y.x
 ·have HN:=aB (show R=false from by rw[HDj.o];simp[setF,exF,vast30,h1]);generalize partsV 200 30 y.x=m at *;have h1':(30:Int)<(m:Int):=aE;clear h1 HDj h0;go_wp2;go_ret;exact⟨by rw[HN.o]<;>rfl,HB1.o⟩
 ·have HN:=aB (show R=((l.drop (j+1)).all setF&&decide (l.length<=40)) from by rw[HDj.o];simp[setF,nameF,exF,vast30,h1,h0]);generalize partsV 200 30 y.x=m at *;have h1':¬(30:Int)<(m:Int):=aE;clear h1 HDj h0;go_wp2;go_roundw
  case rel=>exact⟨j+1,by omega,by go_num,HN.o,HB1.o⟩
  case measure=>simp[intOf];omega
theorem items18_any{p:Nat->Prop}{W:World}{v:Value}{l:List It}(hlen:l.length<=9223372036854775807)(hR:d2p fIt p W v l):eg 27 #[v] W fun e w'=>e= .returned (.bool (fewL itF l))/\Bl W w':=by
 obtain⟨a,cap,rfl,hc⟩:=hR.shape;have HC:=aB hc;obtain⟨R,HRR⟩:∃R,Hid ((l.all itF&&decide (l.length<=40))=R):=⟨_,rfl⟩
 show eg 27 _ W fun e w'=>e= .returned (.bool (l.all itF&&decide (l.length<=40)))/\Bl W w';rw[HRR.o];clear hR hc;go_enter func27,ntmps27;go_wp2_with fail;go_loopw [3] (fun i wr=>∃j:Nat,j<=l.length/\i= .int .i64 (j:Int)/\Hid (R=((l.drop j).all itF&&decide (l.length<=40)))/\Hid (Bl W wr)) (fun i _=>l.length-(intOf i).toNat)
 case atStart=>exact⟨0,dL _,rfl,HRR.o.symm,Bl.refl W⟩
 case round=>
 obtain⟨j,hj,rfl,HD,HB⟩:=hrel;by_cases hlt:j<l.length;rotate_left
 ·obtain rfl:j=l.length:=by omega
  have hge:¬((l.length:Int)<(l.length:Int)):=aE;by_cases h4:l.length<=40
  ·have h4':(l.length:Int)<=40:=by omega
   have HF:=aB (show R=true from by rw[HD.o,dO,decide_eq_true h4];rfl);clear h4 HD;go_wp2;go_ret;exact⟨by rw[HF.o];first |rfl|(simp;omega),HB.o⟩
  ·have h4':¬((l.length:Int)<=40):=by omega
   have HF:=aB (show R=false from by rw[HD.o,decide_eq_false h4,Bool.and_false]);clear h4 HD;go_wp2;go_ret;exact⟨by rw[HF.o];first |rfl|(simp;omega),HB.o⟩
 have hlt':(j:Int)<(l.length:Int):=aE;obtain⟨b,off,s,rfl,-,hb,hcs,hs⟩:=HC.o j hlt
 replace hcs:d2k wr b (off+j * 11) ([.bool l[j].star,S l[j].t]++(qD l[j].x s++[S l[j].al])):=hcs.keep (HB.o.block b hb)
 have HCS:=aB (show wr.rangeAt b (off+j * 11+2) (qD l[j].x s) from fun i u hu=>by
  have hi:i<8:=(aO.1 hu).1;have:=hcs (i+2) u (by
   show(qD l[j].x s++[S l[j].al])[i]?=some u;rw[List.getElem?_append_left (by exact hi)];exact hu)
  rw[show off+j * 11+2+i=off+j * 11+(i+2) by omega];exact this)
 have HCC:=aB hcs;have hbw:b<wr.heap.size:=(by have:=HB.o.size;omega);have HV:=aB (vast18 l[j].x wr (.agg (qD l[j].x s).toArray) ⟨s,rfl,hs.reads.bl HB.o⟩);have HDj:=aB (HD.o.trans (by rw[all_drop hlt]));clear hcs hs HD;generalize l[j]=y at *;go_wp2_with (refine wpList_load_mid rfl 38 (.tmp 13) rfl b (off+j * 11+2) rfl (qD y.x s) _ HCS.o underlying38 rfl d4b ?_)
 refine HV.o.mono ?_;rintro e w1 ⟨rfl,hb1⟩;have HB1:=aB (HB.o.call hb1);have hc1:=HCC.o.keep (hb1.block b hbw);have e1:w1.cell? ⟨b,off+j * 11+1,none⟩=some (S y.t):=hc1 1 _ rfl;have e10:w1.cell? ⟨b,off+j * 11+3,none⟩=some _:=hc1 3 _ rfl;have e11:w1.cell? ⟨b,off+j * 11+10,none⟩=some (S y.al):=hc1 10 _ rfl;clear hb1 HV HCS HCC hc1 e10;by_cases h1:30<partsV 200 30 y.x
 ·have HN:=aB (show R=false from by rw[HDj.o];simp[itF,exF,vast30,h1]);generalize partsV 200 30 y.x=m at *;have h1':(30:Int)<(m:Int):=aE;clear h1 HDj;go_wp2;go_ret;exact⟨by rw[HN.o]<;>rfl,HB1.o⟩
 have hxf:exF y.x=true:=(by simp[exF,vast30,h1]);generalize partsV 200 30 y.x=m at *;have h1':¬(30:Int)<(m:Int):=aE;clear h1;by_cases h2:100<y.t.length
 ·have h2':(100:Int)<(y.t.length:Int):=by omega
  have HN:=aB (show R=false from by rw[HDj.o];simp[itF,nameF,h2]);clear h2 HDj hxf;go_wp2;go_ret;exact⟨by rw[HN.o]<;>rfl,HB1.o⟩
 have h2':¬(100:Int)<(y.t.length:Int):=aE;by_cases h3:100<y.al.length
 ·have h3':(100:Int)<(y.al.length:Int):=by omega
  have HN:=aB (show R=false from by rw[HDj.o];simp[itF,nameF,h3]);clear h2 h3 HDj hxf;go_wp2;go_ret;exact⟨by rw[HN.o]<;>rfl,HB1.o⟩
 have h3':¬(100:Int)<(y.al.length:Int):=aE;have HN:=aB (show R=((l.drop (j+1)).all itF&&decide (l.length<=40)) from by rw[HDj.o];simp[itF,nameF,hxf,h2,h3]);clear h2 h3 HDj hxf;go_wp2;go_roundw
 case rel=>exact⟨j+1,by omega,by go_num,HN.o,HB1.o⟩
 case measure=>simp[intOf];omega
end
end Go.Proofs.YtohlomdapelgeaaGreatDoor
