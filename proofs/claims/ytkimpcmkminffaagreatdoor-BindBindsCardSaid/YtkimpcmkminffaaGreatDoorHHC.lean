/- Texts beside the shared ones. -/
import Derived.Test.YtkimpcmkminffaaGreatDoorHX0
import Derived.Test.YtkimpcmkminffaaGreatDoorHHB
import Derived.Lib.MinMax
namespace Go.Proofs.YtkimpcmkminffaaGreatDoor
open Go.RowKit
open _root_.Array renaming getElem?_eq_some_iff->aC
open _root_.Go.Lib renaming hid->aB
open _root_.List renaming drop_length->dO,getElem_mem->dS
open _root_.Nat renaming le_refl->aH,zero_le->dL
set_option maxRecDepth 100000
set_option maxHeartbeats 8000000
section
theorem parts20_any:∀(m:Nat) (x:Ex),SizeOf.sizeOf x<=m->∀(q:Int) (most:Nat) (W:World) (v:Value),q=(most:Int)->most<=1000->eO W x v->Calls Tryz.prog 11 #[v,.int .i64 q] W fun e w'=>e= .returned (.int .i64 (partsV 1100 most x:Int))/\Bl W w'
 |0,x,h,_,_,_,_,_,_,_=>by cases x;simp at h
 |m+1,x,hx,q,most,W,v,hq,hm,hv=>by
  subst hq;obtain⟨sv,rfl,hL⟩:=hv;obtain⟨a,cap,rfl,hc⟩:=hL.shape;have IH:Hid (∀y∈x.args,∀(q:Int) (most:Nat) (W:World) (v:Value),q=(most:Int)->most<=1000->eO W y v->Calls Tryz.prog 11 #[v,.int .i64 q] W fun e w'=>e= .returned (.int .i64 (partsV 1100 most y:Int))/\Bl W w'):=fun y hy=>parts20_any m y (by have:=b2r hy;omega);have HC:=aB hc;clear hc hL hx;obtain⟨k,⟨v1,v2,v3⟩,t,nm,o,args⟩:=x;simp only[Ex.k,Ex.v,Ex.t,Ex.n,Ex.o,Ex.args] at *;by_cases hb1:1100<v3.length
  ·have h1:(1100:Int)<(v3.length:Int):=by omega
   have HE:Hid ((partsV 1100 most (.mk k (v1,v2,v3) t nm o args):Int)=(most:Int)+1):=(by show _=_;simp[partsV,c7h,hb1]);rw[HE.o];clear hb1;go_enter Tryz.func11,Tryz.ntmps11;go_wp2;go_ret;exact⟨by go_num,(Bl.refl W).alloc _⟩
  by_cases hb2:100<t.length
  ·have h1:¬(1100:Int)<(v3.length:Int):=by omega
   have h2:(100:Int)<(t.length:Int):=(by omega);have HE:Hid ((partsV 1100 most (.mk k (v1,v2,v3) t nm o args):Int)=(most:Int)+1):=(by show _=_;simp[partsV,c7h,hb2]);rw[HE.o];clear hb1 hb2;go_enter Tryz.func11,Tryz.ntmps11;go_wp2;go_ret;exact⟨by go_num,(Bl.refl W).alloc _⟩
  by_cases hb3:100<nm.length
  ·have h1:¬(1100:Int)<(v3.length:Int):=by omega
   have h2:¬(100:Int)<(t.length:Int):=(by omega);have h3:(100:Int)<(nm.length:Int):=(by omega);have HE:Hid ((partsV 1100 most (.mk k (v1,v2,v3) t nm o args):Int)=(most:Int)+1):=(by show _=_;simp[partsV,c7h,hb3]);rw[HE.o];clear hb1 hb2 hb3;go_enter Tryz.func11,Tryz.ntmps11;go_wp2;go_ret;exact⟨by go_num,(Bl.refl W).alloc _⟩
  have h1:¬(1100:Int)<(v3.length:Int):=(by omega);have h2:¬(100:Int)<(t.length:Int):=(by omega);have h3:¬(100:Int)<(nm.length:Int):=(by omega);have HE:Hid (partsV 1100 most (.mk k (v1,v2,v3) t nm o args)=pVs 1100 most 1 args):=(by show _=_;simp[partsV,c7h,hb1,hb2,hb3]);rw[HE.o];clear hb1 hb2 hb3 HE;obtain⟨R,HRR⟩:∃R,Hid (pVs 1100 most 1 args=R):=⟨_,rfl⟩
  rw[HRR.o];go_enter Tryz.func11,Tryz.ntmps11;go_wp2_with fail;clear h1 h2 h3;go_loopw [5,6] (fun n i wr=>∃j z:Nat,j<=args.length/\j<z/\z<=most+1/\n= .int .i64 (z:Int)/\i= .int .i64 (j:Int)/\Hid (R=pVs 1100 most z (args.drop j))/\Bl W wr/\
   Hid (wr.heap[W.heap.size]?=some (.cells #[.int .i64 k,.int .i64 v1,.int .i64 v2,S v3,S t,S nm,.int .i64 o,.slice a args.length cap] 47 (0,0)))) (fun _ i _=>args.length-(intOf i).toNat)
  case atStart=>exact⟨0,1,dL _,by omega,by omega,rfl,rfl,HRR.o.symm,(Bl.refl W).alloc _,aN _ _⟩
  case round=>
   obtain⟨j,z,hj,hjz,hz,rfl,rfl,HD,hB,HX⟩:=hrel;obtain⟨⟨-,-,-,-,-,-,-,c7⟩,-⟩:=eight HX.o;by_cases hlt:j<args.length
   ·have hltI:(j:Int)<(args.length:Int):=by omega
    by_cases hzm:z<=most
    ·have hzI:(z:Int)<=(most:Int):=by omega
     obtain⟨b,off,s,rfl,h8,hr⟩:=HC.o j hlt;have HB:=aB hB;have HY:=aB (IH.o _ (dS hlt));have HDj:=aB (c7t (lim:=1100) hlt hzm);have HPL:=aB (c9o 1100 (most-z) args[j]);have HR:=aB (hr.bl hB);obtain⟨e0,e1,e2,e3,e4,e5,e6,e7⟩:=h8.bl hB;clear h8 hr hB;generalize hy:args[j]=y at *;clear hy;obtain⟨k',⟨v1',v2',v3'⟩,t',nm',o',args'⟩:=y;simp only[Ex.k,Ex.v,Ex.t,Ex.n,Ex.o] at e0 e1 e2 e3 e4 e5 e6;go_wp2_with fail;have hRE:eO wr (.mk k' (v1',v2',v3') t' nm' o' args') (EV k' (v1',v2',v3') t' nm' o' s):=⟨s,rfl,HR.o⟩
     (with_reducible refine(HY.o _ (most-z) _ _ (by go_num) (by omega) hRE).mono ?_)
     rintro e w1 ⟨rfl,hb1⟩;have HB1:=aB (HB.o.call hb1);have HX1:=aB ((hb1.block _ (aC.1 HX.o).1).trans HX.o);clear hb1 e0 e1 e2 e3 e4 e5 e6 e7 c7;obtain⟨g,HG⟩:∃g,Hid (partsV 1100 (most-z) (.mk k' (v1',v2',v3') t' nm' o' args')=g):=⟨_,rfl⟩
     rw[HG.o];have hg:1<=g/\g<=most-z+1:=(by have:=HPL.o;rw[HG.o] at this;exact this);go_wp2;go_roundw
     case rel=>exact⟨j+1,z+g,by omega,by omega,by omega,by go_num,by go_num,by show _=_;rw[HD.o,HDj.o,HG.o],HB1.o,HX1.o⟩
     case measure=>simp[intOf];omega
    ·have hzI:¬(z:Int)<=(most:Int):=by omega
     have HE:Hid (R=z):=(by show _=_;rw[HD.o,c7s (by omega)]);go_wp2;go_ret;exact⟨by rw[HE.o]<;>rfl,hB⟩
   ·have hltI:¬(j:Int)<(args.length:Int):=by omega
    obtain rfl:j=args.length:=(by omega);have HE:Hid (R=z):=(by show _=_;rw[HD.o,dO];simp only[pVs]);go_wp2;go_ret;exact⟨by rw[HE.o]<;>rfl,hB⟩
theorem wbind_any{fs:List Fd}(hfs:fs.length<=1000000)(fa:Option Addr)(fc:Nat):∀(N:Nat) (x:Ex),fC x<=N->N<=999999->∀(W:World) (v:Value),eO W x v->ReadsFd (fun _=>True) W (.slice fa fs.length fc) fs->Calls Tryz.prog 37 #[.slice fa fs.length fc,v] W (WbP (bindD fs x) W)
 |0,x,hx,_,_,_,_,_=>by have:=oM x;omega
 |N+1,x,hx,hN,W,v,hv,hfd=>wbind_step hfs x (by omega) fa fc (fun y hy W' v hv hfd=>wbind_any hfs fa fc N y (by have:=sH hy;omega) (by omega) W' v hv hfd) W v hv hfd
structure WiF(xc:List Value)(W A:World):Prop where
 x:A.heap[W.heap.size]?=some (.cells xc.toArray 47 (0,0))
 r:A.heap[W.heap.size+1]?=some (.cells (cellsB 0 0 0 0 [] 0 0 [] (.slice none 0 0)) 30 (0,0))
 bl:Bl W A
theorem WiF.call{xc:List Value}{W A B:World}(h:WiF xc W A)(hb:Bl A B):WiF xc W B:=⟨keep_b h.x hb,keep_b h.r hb,h.bl.call hb⟩
theorem WiF.start(xc:List Value)(W:World):WiF xc W ((W.alloc (.cells xc.toArray 47)).alloc (.cells (cellsB 0 0 0 0 [] 0 0 [] (.slice none 0 0)) 30)):=
 ⟨keep_b (aN W _) ((Bl.refl _).alloc _),aV _ _ (by simp),((Bl.refl W).alloc _).alloc _⟩
theorem wBind_any(fs:List Fd)(hfs:fs.length<=1000000)(x:Ex)(hp:fC x<=999999)(hK:c4f x)(hL:Lens x)(W:World)(fa:Option Addr)(fc:Nat)(v:Value)(hv:eO W x v)(hfd:ReadsFd (fun _=>True) W (.slice fa fs.length fc) fs):
  Calls Tryz.prog 13 #[.slice fa fs.length fc,v] W (WbP (bindQ fs x) W):=by
 obtain⟨Z,HZ⟩:∃Z,Hid (bindQ fs x=Z):=⟨_,rfl⟩
 rw[HZ.o];have HFL:Hid (∀W',Bl W W'->Calls Tryz.prog 35 #[.slice fa fs.length fc] W' fun e w'=>e= .returned (.int .i64 (fieldsB fs))/\W'=w'):=fun W' hb=>wFields_any hfs W' fa fc (hfd.bl hb);have HCK:Hid (∀W',Bl W W'->Calls Tryz.prog 36 #[v] W' fun e w'=>e= .returned (.bool (eH x))/\Bl W' w'):=fun W' hb=>c7i 1000000 x (by omega) (aH _) hK hL W' v (hv.bl hb);have HBD:Hid (∀W',Bl W W'->Calls Tryz.prog 37 #[.slice fa fs.length fc,v] W' (WbP (bindD fs x) W')):=fun W' hb=>wbind_any hfs fa fc _ x (aH _) hp W' v (hv.bl hb) (hfd.bl hb);have HQ1:=aB (fun h:fieldsB fs≠0=>show Z=(zeroD,fieldsB fs) from by rw[<-HZ.o];unfold bindQ;rw[if_pos h]);have HQ2:=aB (fun(h:fieldsB fs=0) (h2:eH x=false)=>show Z=(zeroD,2) from by rw[<-HZ.o];unfold bindQ;rw[if_neg (fun e=>e h),if_pos h2]);have HQ3:=aB (fun(h:fieldsB fs=0) (h2:eH x=true)=>show Z=bindD fs x from by rw[<-HZ.o];unfold bindQ;rw[if_neg (fun e=>e h),if_neg (by rw[h2];decide)]);obtain⟨sl,rfl,hR⟩:=hv;obtain⟨a,cap,rfl,-⟩:=hR.shape;clear hR hp hK hL hfd;generalize fieldsB fs=fb at *;generalize bindD fs x=R at *;generalize eH x=ck at *;obtain⟨k,⟨v1,v2,v3⟩,t,n,o,args⟩:=x;simp only[Ex.k,Ex.t,Ex.v,Ex.o,Ex.n,Ex.args] at *;generalize args.length=m at *;generalize fs.length=q at *;have HF0:=aB (WiF.start (exC8 k v1 v2 v3 t n o (.slice a m cap)) W);go_enter Tryz.func13,Tryz.ntmps13;go_wp2_with fail;refine(HFL.o _ HF0.o.bl).mono ?_;rintro e w1 ⟨rfl,rfl⟩;by_cases hf:fb=0
 case neg=>
  have q1:(fb != 0)=true:=(by simpa using hf);have HZ2:=aB (HQ1.o hf);clear hf HQ1 HQ2 HQ3;go_wp2_with (refine bA (g:=W.heap.size+1) (i:=0) rfl rfl rfl rfl (unC9 0 0 0 0 [] 0 0 [] (.slice none 0 0)) (HF0.o).r rfl rfl bdInfo rfl ?_)
  intro w9 hB9 hX9;obtain⟨q0,q1,q2,q3,q4,q5,q6,q7,q8⟩:=nine hX9;go_wp2;refine bodyPost_ret (v:= .tuple #[BdV 0 0 zVl 0 0 [] (.slice none 0 0),.int .i64 fb]) (by simp[results,Tryz.results13,go_sem,q0,q1,q2,q3,q4,q5,q6,q7,q8,zVl]) rfl ⟨?_,hB9.bl (HF0.o).bl (by omega)⟩;exact⟨_,by rw[HZ2.o],by rw[HZ2.o];exact zero_readsD _ _⟩
 have q1:(fb != 0)=false:=(by simpa using hf);obtain⟨x0,x1,x2,x3,x4,x5,x6,x7⟩:=cells_x HF0.o.x;cases ck
 ·have HZ2:=aB (HQ2.o hf rfl);clear hf HQ1 HQ2 HQ3;go_wp2_with fail;refine(HCK.o _ HF0.o.bl).mono ?_;rintro e w2 ⟨rfl,hb2⟩;have HF2:=aB (HF0.o.call hb2);clear hb2 x0 x1 x2 x3 x4 x5 x6 x7;go_wp2_with (refine bA (g:=W.heap.size+1) (i:=0) rfl rfl rfl rfl (unC9 0 0 0 0 [] 0 0 [] (.slice none 0 0)) (HF2.o).r rfl rfl bdInfo rfl ?_)
  intro w9 hB9 hX9;obtain⟨q0,q1,q2,q3,q4,q5,q6,q7,q8⟩:=nine hX9;go_wp2;refine bodyPost_ret (v:= .tuple #[BdV 0 0 zVl 0 0 [] (.slice none 0 0),.int .i64 2]) (by simp[results,Tryz.results13,go_sem,q0,q1,q2,q3,q4,q5,q6,q7,q8,zVl]) rfl ⟨?_,hB9.bl (HF2.o).bl (by omega)⟩;exact⟨_,by rw[HZ2.o],by rw[HZ2.o];exact zero_readsD _ _⟩
 ·have HZ2:=aB (HQ3.o hf rfl);clear hf HQ1 HQ2 HQ3;go_wp2_with fail;refine(HCK.o _ HF0.o.bl).mono ?_;rintro e w2 ⟨rfl,hb2⟩;have HF2:=aB (HF0.o.call hb2);clear hb2 x0 x1 x2 x3 x4 x5 x6 x7;obtain⟨x0,x1,x2,x3,x4,x5,x6,x7⟩:=cells_x HF2.o.x;go_wp2_with fail;refine(HBD.o _ HF2.o.bl).mono ?_;rintro e w3 ⟨⟨v',rfl,hrd⟩,hb3⟩;have HF3:=aB (HF2.o.call hb3);have hsz:=HF2.o.bl.size;have hsz2:W.heap.size+2<=w2.heap.size:=(by have:=(aC.1 HF2.o.r).1;omega);obtain⟨⟨k',t',⟨v1',v2',v3'⟩,p',o',n',args'⟩,c⟩:=R;obtain⟨s',rfl,hrl⟩:=hrd;simp only[Bd.args] at hrl;simp only[Bd.k,Bd.t,Bd.v,Bd.p,Bd.o,Bd.n];obtain⟨sa',sc',rfl,-⟩:=id hrl.shape;have HRL:=aB hrl;clear hb3 hrl x0 x1 x2 x3 x4 x5 x6 x7;go_wp2_with (refine bA (g:=W.heap.size+1) (i:=0) rfl rfl rfl rfl (unC9 k' t' v1' v2' v3' p' o' n' (.slice sa' args'.length sc')) HF3.o.r rfl rfl bdInfo rfl ?_)
  intro w9 hB9 hX9;obtain⟨q0,q1,q2,q3,q4,q5,q6,q7,q8⟩:=nine hX9;go_wp2;refine bodyPost_ret (v:= .tuple #[BdV k' t' (v1',v2',v3') p' o' n' (.slice sa' args'.length sc'),.int .i64 c]) (by simp[results,Tryz.results13,go_sem,q0,q1,q2,q3,q4,q5,q6,q7,q8]) rfl ⟨⟨_,by rw[HZ2.o],by rw[HZ2.o];exact⟨_,rfl,HRL.o.keep (Nat.le_of_eq hB9.size.symm) (fun b (h:_<=b)=>by omega) fun b (h:_<=b) _=>hB9.same b (by omega)⟩⟩,hB9.bl HF3.o.bl (by omega)⟩
end
end Go.Proofs.YtkimpcmkminffaaGreatDoor
