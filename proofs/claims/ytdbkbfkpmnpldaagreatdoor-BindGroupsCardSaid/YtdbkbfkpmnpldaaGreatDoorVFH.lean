/- Texts beside the shared ones. -/
import Derived.Test.YtdbkbfkpmnpldaaGreatDoorVX0
import Derived.Test.YtdbkbfkpmnpldaaGreatDoorVFJ
namespace Go.Proofs.YtdbkbfkpmnpldaaGreatDoor
open Go.RowKit
open _root_.Array renaming getElem?_eq_some_iff->aC
open _root_.Go.RowKit.Below renaming grown->iL
open _root_.Go.Lib renaming hid->aB
open _root_.List renaming drop_eq_getElem_cons->aZ,drop_length->dO,getElem_mem->dS,length_append->bD,length_map->mD,map_append->kW,mem_append->iX,mem_singleton->gQ,take_of_length_le->jS
open _root_.Nat renaming le_refl->aH,zero_le->dL
open _root_.Go.World renaming block_lt_of_cell?->bB,ownsRow_nil->d2l,size_alloc->aR
set_option maxRecDepth 100000
set_option maxHeartbeats 16000000
section
abbrev VE(r:Vl×Int):Ending:= .returned (.tuple #[VlV r.1,.int .i64 r.2])
structure WkF(c:Array Value)(W A:World):Prop where
 x:A.heap[W.heap.size]?=some (.cells c 30 (0,0))
 r:A.heap[W.heap.size+1]?=some (.cells #[.int .i64 0,.int .i64 0,S []] 26 (0,0))
 bl:Bl W A
theorem WkF.call{c:Array Value}{W A B:World}(h:WkF c W A)(hb:Bl A B):WkF c W B:=⟨keep_b h.x hb,keep_b h.r hb,h.bl.call hb⟩
theorem WkF.start(c:Array Value)(W:World):WkF c W ((W.alloc (.cells c 30)).alloc (.cells #[.int .i64 0,.int .i64 0,S []] 26)):=
 ⟨keep_b (aN W _) ((Bl.refl _).alloc _),aV _ _ (by simp),((Bl.refl W).alloc _).alloc _⟩
theorem wwork_1(x:Bd)(hk:x.k=1)(W:World)(v:Value)(ra:Option Addr)(m' rc:Nat)(hv:ReadsD W x v):Calls Tryz.prog 44 #[v,.slice ra m' rc] W fun e w'=>e=VE (x.v,0)/\Bl W w':=by
 obtain⟨sv,rfl,hR⟩:=hv;obtain⟨a,cap,rfl,hc⟩:=hR.shape;have HC:=aB hc;clear hR hc;obtain⟨k,t,⟨v1,v2,v3⟩,p,o,n,args⟩:=x;simp only[Bd.k,Bd.t,Bd.v,Bd.p,Bd.o,Bd.n,Bd.args] at *;obtain⟨m,hm⟩:∃m,args.length=m:=⟨_,rfl⟩
 have HM:=aB hm;rw[hm];clear hm;have HF0:=aB (WkF.start (cellsB k t v1 v2 v3 p o n (.slice a m cap)) W);obtain⟨e0,e1,e2,e3,e4,e5,e6,e7,e8⟩:=nine HF0.o.x;have g1:(k==1)=true:=(by simpa using hk);clear hk HC;go_enter Tryz.func44,Tryz.ntmps44;go_wp2_with (refine bA (g:=W.heap.size+1) (i:=0) rfl rfl rfl rfl (cells3 (v1,v2,v3)) (HF0.o).r rfl rfl vlInfo rfl ?_)
 intro w9 hB9 hX9;obtain⟨q0,q1,q2⟩:=three3 hX9;go_wp2;refine bodyPost_ret (v:= .tuple #[VlV (v1,v2,v3),.int .i64 0]) (by simp[results,Tryz.results44,go_sem,q0,q1,q2]) rfl ⟨?_,hB9.bl (HF0.o).bl (by omega)⟩;rfl
theorem wwork_2n(x:Bd)(hk:x.k=2)(W:World)(v:Value)(ra:Option Addr)(rc:Nat)(hv:ReadsD W x v):Calls Tryz.prog 44 #[v,.slice ra 0 rc] W fun e w'=>e=VE (zVl,0)/\Bl W w':=by
 obtain⟨sv,rfl,hR⟩:=hv;obtain⟨a,cap,rfl,hc⟩:=hR.shape;have HC:=aB hc;clear hR hc;obtain⟨k,t,⟨v1,v2,v3⟩,p,o,n,args⟩:=x;simp only[Bd.k,Bd.t,Bd.v,Bd.p,Bd.o,Bd.n,Bd.args] at *;obtain⟨m,hm⟩:∃m,args.length=m:=⟨_,rfl⟩
 have HM:=aB hm;rw[hm];clear hm;have HF0:=aB (WkF.start (cellsB k t v1 v2 v3 p o n (.slice a m cap)) W);obtain⟨e0,e1,e2,e3,e4,e5,e6,e7,e8⟩:=nine HF0.o.x;have g1:(k==1)=false:=(by rw[hk];rfl);have g2:(k==2)=true:=(by rw[hk];rfl);clear hk HC;go_enter Tryz.func44,Tryz.ntmps44;go_wp2_with (refine bA (g:=W.heap.size+1) (i:=0) rfl rfl rfl rfl (cells3 zVl) (HF0.o).r rfl rfl vlInfo rfl ?_)
 intro w9 hB9 hX9;obtain⟨q0,q1,q2⟩:=three3 hX9;go_wp2;refine bodyPost_ret (v:= .tuple #[VlV zVl,.int .i64 0]) (by simp[results,Tryz.results44,go_sem,q0,q1,q2]) rfl ⟨?_,hB9.bl (HF0.o).bl (by omega)⟩;rfl
theorem wwork_2(x:Bd)(hk:x.k=2)(W:World)(v:Value)(b off rc m':Nat)(row:List Vl)(s:Value)(hm:0<m')(hv:ReadsD W x v)(hs:W.cell? ⟨b,off,none⟩=some s)(hr:ReadsVl (fun _=>True) W s row)(i:Nat)(hp:x.p=(i:Int))(hi:i<row.length):
  Calls Tryz.prog 44 #[v,.slice (some ⟨b,off,none⟩) m' rc] W fun e w'=>e=VE (row[i],0)/\Bl W w':=by
 obtain⟨ra,rcp,rfl,hc2⟩:=hr.shape;obtain⟨b2,off2,rfl,-,hbl2,h3⟩:=hc2 i hi;have hbl:b<W.heap.size:=(by have:=bB _ _ hs;simpa using this);obtain⟨sv,rfl,hR⟩:=hv;obtain⟨a,cap,rfl,hc⟩:=hR.shape;have HC:=aB hc;clear hR hc;obtain⟨k,t,⟨v1,v2,v3⟩,p,o,n,args⟩:=x;simp only[Bd.k,Bd.t,Bd.v,Bd.p,Bd.o,Bd.n,Bd.args] at *;obtain⟨m,hm⟩:∃m,args.length=m:=⟨_,rfl⟩
 have HM:=aB hm;rw[hm];clear hm;have HF0:=aB (WkF.start (cellsB k t v1 v2 v3 p o n (.slice a m cap)) W);obtain⟨e0,e1,e2,e3,e4,e5,e6,e7,e8⟩:=nine HF0.o.x;have g1:(k==1)=false:=(by rw[hk];rfl);have g2:(k==2)=true:=(by rw[hk];rfl);have gm:((m':Int)==0)=false:=(by simpa using(show ¬(m':Int)=0 by omega));have hmm:(0:Int)<(m':Int):=(by omega);have hin:(i:Int)<(row.length:Int):=(by omega);subst hp;have HS:=aB hs;have H3:=aB h3;generalize row[i]=y at *;obtain⟨y1,y2,y3⟩:=y;clear hk HC hs h3 hc2;go_enter Tryz.func44,Tryz.ntmps44;go_wp2_with fail;obtain⟨w0,hw0⟩:∃w0,((W.alloc (.cells (cellsB k t v1 v2 v3 i o n (.slice a m cap)) 30)).alloc (.cells #[.int .i64 0,.int .i64 0,S []] 26))=w0:=⟨_,rfl⟩
 rw[hw0] at HF0⊢;clear hw0 e0 e1 e2 e3 e4 e5 e6 e7 e8;obtain⟨e0,e1,e2,e3,e4,e5,e6,e7,e8⟩:=nine HF0.o.x;have hs:=Bl.cell HF0.o.bl HS.o;obtain⟨f0,f1,f2⟩:=(H3.o.keep (HF0.o.bl.block b2 hbl2)).three;simp only at f0 f1 f2;have HF1:=aB (HF0.o.call (Bl.refl w0).drew)
 go_still_tail 7,(by kernel_rfl)
 go_wp2_with (refine bA (g:=W.heap.size+1) (i:=0) rfl rfl rfl rfl (cells3 (y1,y2,y3)) (HF1.o).r rfl rfl vlInfo rfl ?_)
 intro w9 hB9 hX9;obtain⟨q0,q1,q2⟩:=three3 hX9;go_wp2;refine bodyPost_ret (v:= .tuple #[VlV (y1,y2,y3),.int .i64 0]) (by simp[results,Tryz.results44,go_sem,q0,q1,q2]) rfl ⟨?_,hB9.bl (HF1.o).bl (by omega)⟩;rfl
theorem seqV_len(l:List (Vl×Int)):(seqV l).1.length<=l.length:=seq_len l
theorem firstV_drop{l:List Vl}{j:Nat}(hj:j<l.length):firstV (l.drop j)=if l[j].1≠0 then l[j] else firstV (l.drop (j+1)):=by
 rw[aZ hj];rfl
def manyE(k o:Int)(r:List Vl×Int):Vl×Int:=if r.2≠0 then(zVl,r.2) else if k=3 then doO o r.1 else(firstV r.1,0)
theorem wwork_many(x:Bd)(hk:x.k=3\/x.k=4)(f:Bd->Vl×Int)(hfew:x.args.length<=999999)(W:World)(v:Value)(ra:Option Addr)(m' rc:Nat)(hv:ReadsD W x v)
  (hf:∀y∈x.args,∀(W':World) (v':Value),Bl W W'->ReadsD W' y v'->Calls Tryz.prog 44 #[v',.slice ra m' rc] W' fun e w'=>e=VE (f y)/\Bl W' w')
  (hI:(seqV (x.args.map f)).2=0->∀v∈(seqV (x.args.map f)).1,Int2 v):Calls Tryz.prog 44 #[v,.slice ra m' rc] W fun e w'=>e=VE (manyE x.k x.o (seqV (x.args.map f)))/\Bl W w':=by
 have HFF:=aB hf;have HIN:=aB hI;have HLF:Hid ((x.args.map f).length=x.args.length):=mD ..;clear hf hI;obtain⟨Z,HZ⟩:∃Z,Hid (manyE x.k x.o (seqV (x.args.map f))=Z):=⟨_,rfl⟩
 rw[HZ.o];obtain⟨sv,rfl,hR⟩:=hv;obtain⟨a,cap,rfl,hc⟩:=hR.shape;have HC:=aB hc;clear hR hc;obtain⟨k,t,⟨v1,v2,v3⟩,p,o,n,args⟩:=x;simp only[Bd.k,Bd.t,Bd.v,Bd.p,Bd.o,Bd.n,Bd.args] at *;obtain⟨m,hm⟩:∃m,args.length=m:=⟨_,rfl⟩
 have HM:=aB hm;rw[hm];clear hm;have HF0:=aB (WkF.start (cellsB k t v1 v2 v3 p o n (.slice a m cap)) W);obtain⟨e0,e1,e2,e3,e4,e5,e6,e7,e8⟩:=nine HF0.o.x;rw[HM.o] at hfew HLF;have g1:(k==1)=false:=by rcases hk with h|h<;>(rw[h];rfl)
 have g2:(k==2)=false:=by rcases hk with h|h<;>(rw[h];rfl)
 have g5:(k==5)=false:=by rcases hk with h|h<;>(rw[h];rfl)
 have HKK:=aB hk;clear hk e0 e1 e2 e3 e4 e5 e6 e7 e8;obtain⟨e0,-,-,-,-,-,-,-,-⟩:=nine HF0.o.x;go_enter Tryz.func44,Tryz.ntmps44;go_wp2_with fail;clear e0;go_loopw [7,11] (fun sv i wr=>∃(j:Nat) (v0:Value) (acc:List Vl),v0=sv/\j<=m/\i= .int .i64 (j:Int)/\acc.length=j/\Hid (acc=((args.map f).take j).map (·.1))/\Hid (∀y∈(args.map f).take j,y.2=0)/\Hid (wr.ownsRow (W.heap.size+2) 26 3 v0 acc.length (acc.flatMap cells3))/\Hid (WkF (cellsB k t v1 v2 v3 p o n (.slice a m cap)) W wr)) (fun _ i _=>m-(intOf i).toNat)
 case atStart=>exact⟨0,_,[],rfl,dL _,rfl,rfl,rfl,(fun y hy=>by cases hy),d2l _ _ _ _,HF0.o⟩
 case round=>
  obtain⟨j,v0,acc,rfl,hj,rfl,hal,HA,HOK,HO,HF⟩:=hrel;obtain⟨a0,-,-,-,-,-,a6,-,a8⟩:=nine HF.o.x;by_cases hlt:j<m
  ·obtain⟨b,off,s,rfl,-,hbl,h9,hr⟩:=HC.o j (by rw[HM.o];exact hlt);have hja:j<args.length:=(by rw[HM.o];exact hlt);have HFY:=aB (HFF.o _ (dS hja));have HJ:=aB (show(args.map f)[j]'(by rw[HLF.o];exact hlt)=f args[j] from by simp);have HSN:=aB (show((args.map f).take (j+1)).map (·.1)=((args.map f).take j).map (·.1)++[(f args[j]).1] from by
    rw[takeD_snoc (args.map f) (by rw[HLF.o];exact hlt),kW,List.getElem_map];rfl)
   have HBAD:=aB (fun h=>seq_bad (l:=args.map f) (j:=j) (by rw[HLF.o];exact hlt) HOK.o h);rw[HJ.o] at HBAD;have HGO:=aB (fun(h:(f args[j]).2=0)=>(show ∀y∈(args.map f).take (j+1),y.2=0 from fun y hy=>by
    rw[takeD_snoc (args.map f) (by rw[HLF.o];exact hlt)] at hy;rcases iX.1 hy with hy|hy
    ·exact HOK.o y hy
    ·rw[gQ.1 hy,List.getElem_map];exact h))
   have HRD:=aB (hr.bl HF.o.bl);obtain⟨e0,e1,e2,e3,e4,e5,e6,e7,e8⟩:=(h9.keep (HF.o.bl.block b hbl)).nine;clear h9 hr HJ;generalize args[j]'hja=y at *;generalize hfy:f y=ry at *;obtain⟨⟨r1,r2,r3⟩,c⟩:=ry;obtain⟨k',t',⟨v1',v2',v3'⟩,pt',o',nm',args'⟩:=y;simp only[Bd.k,Bd.t,Bd.v,Bd.p,Bd.o,Bd.n] at e0 e1 e2 e3 e4 e5 e6 e7;have HCL:=aB (HFY.o wr (BdV k' t' (v1',v2',v3') pt' o' nm' s) HF.o.bl ⟨s,rfl,HRD.o⟩);have hlt':(j:Int)<(m:Int):=(by omega);clear HFY hfy;go_wp2_with fail;refine HCL.o.mono ?_;rintro e w1 ⟨rfl,hb1⟩;have HB1:=aB (hb1.alloc (.cells #[.int .i64 r1,.int .i64 r2,S r3] 26));have HX1:=aB (aN w1 (.cells #[.int .i64 r1,.int .i64 r2,S r3] 26));obtain⟨n1,hn1⟩:∃n1,w1.heap.size=n1:=⟨_,rfl⟩
   clear hb1 e0 e1 e2 e3 e4 e5 e6 e7 e8 a0 a6 a8 HCL
   go_upto_region 22 with fail
   obtain⟨u,hu⟩:∃u,w1.alloc (.cells #[.int .i64 r1,.int .i64 r2,S r3] 26)=u:=⟨_,rfl⟩
   change Code.wp _ _ _ _ (w1.alloc (.cells #[.int .i64 r1,.int .i64 r2,S r3] 26));rw[hu] at HB1 HX1⊢
   try rw[hn1] at HX1
   try rw[hn1]
   have HFU:=aB (HF.o.call HB1.o);have HO1:=aB (gY HB1.o HO.o);have hlow:=aB HO1.o.lt;have hszu:W.heap.size+2<=u.heap.size:=(by have:=(aC.1 HFU.o.r).1;omega);obtain⟨q0,q1,q2⟩:=three3 HX1.o;clear hu hn1 HX1;by_cases hc:c=0
   ·have HG2:=aB (HGO.o hc);subst hc;clear HGO HBAD;go_wp2_with (first |(refine d8l (vs:=[.int .i64 r1,.int .i64 r2,S r3]) rfl (t:=47) (y:= .tmp 102) rfl Tryz.underlying47 rfl vl1 rfl ?_)|(at_builtin;refine wpList_append_row rfl (.tmp 101) (.tmp 103) rfl vlFull Tryz.underlying47 rfl (by decide) (by decide) (W.heap.size+2) _ acc.length _ rfl (gY ((Bl.refl _).alloc _) HO1.o) u.heap.size [.int .i64 r1,.int .i64 r2,S r3] rfl (aN u _) rfl rfl (by omega) (by rw[aR];omega) ?_))
    intro v2' w2 hown2 hg2 _;have hkeep:∀i,i<W.heap.size+2->w2.heap[i]?=u.heap[i]?:=fun i hi=>(hg2.block i (by simp;omega) (fun e=>by have:=(hlow.o i e.symm).1;omega)).trans (aW u _ (by omega));have HF2:=aB (show WkF (cellsB k t v1 v2 v3 p o n (.slice (some ⟨b,off,none⟩) m cap)) W w2 from⟨(hkeep _ (by omega)).trans HFU.o.x,(hkeep _ (by omega)).trans HFU.o.r,iL (HFU.o.bl.alloc (.cells #[.int .i64 r1,.int .i64 r2,S r3] 26)) hg2 (by simp;omega) (fun i hi=>by have:=(hlow.o i hi).1;omega)⟩);have HO2:=aB (show w2.ownsRow (W.heap.size+2) 26 3 v2' (acc++[(r1,r2,r3)]).length ((acc++[(r1,r2,r3)]).flatMap cells3) from by rw[bD,List.flatMap_append,hal];exact hown2);have HA2:=aB (show acc++[(r1,r2,r3)]=((args.map f).take (j+1)).map (·.1) from by rw[HSN.o,HA.o]);clear hown2 hg2 hkeep q0 q1 q2;go_wp2;go_roundw
    case rel=>exact⟨j+1,_,acc++[(r1,r2,r3)],rfl,by omega,by go_num,by rw[bD,hal];rfl,HA2.o,HG2.o,HO2.o,HF2.o⟩
    case measure=>simp[intOf];omega
   ·have HB:=aB (HBAD.o hc);have gc:(c != 0)=true:=(by simpa using hc);have HZ2:Hid (Z=(zVl,c)):=(by show _=_;rw[<-HZ.o];unfold manyE;rw[HB.o];exact if_pos hc);clear hc HGO HBAD;go_wp2_with (refine bA (g:=W.heap.size+1) (i:=0) rfl rfl rfl rfl (cells3 zVl) (HFU.o).r rfl rfl vlInfo rfl ?_)
    intro w9 hB9 hX9;obtain⟨q0,q1,q2⟩:=three3 hX9;go_wp2;refine bodyPost_ret (v:= .tuple #[VlV zVl,.int .i64 c]) (by simp[results,Tryz.results44,go_sem,q0,q1,q2]) rfl ⟨?_,hB9.bl (HFU.o).bl (by omega)⟩;rw[HZ2.o]
  ·obtain rfl:m=j:=by omega
   have HSQ:=aB (show seqV (args.map f)=(acc,0) from by
    have h:=HOK.o;rw[jS (by rw[HLF.o];exact aH _)] at h;have h2:=HA.o;rw[jS (by rw[HLF.o];exact aH _)] at h2;rw[seq_ok h,h2])
   have HV:=aB (own_vals HO.o);have HIA:=aB (show ∀v∈acc,Int2 v from fun v hv=>HIN.o (by rw[HSQ.o]) v (by rw[HSQ.o];exact hv));obtain⟨va,vc,hva,hcs⟩:=HV.o.shape;have HCS:=aB hcs;subst hva;have hge:¬((m:Int)<(m:Int)):=(by omega);have hfa:acc.length<=1000000:=(by omega);clear HO HA HOK HFF HC hcs;rcases HKK.o with h3|h4
   ·have g3:(k==3)=true:=by rw[h3];rfl
    have HZ2:Hid (Z=doO o acc):=(by show _=_;rw[<-HZ.o,HSQ.o];unfold manyE;rw[if_neg (fun h=>h rfl),if_pos h3]);have HDO:=aB (uDo_any o acc hfa HIA.o wr va vc HV.o);obtain⟨⟨⟨r1,r2,r3⟩,c⟩,hR⟩:∃R,doO o acc=R:=⟨_,rfl⟩
    rw[hR] at HZ2 HDO;rw[hal] at HDO;clear h3 HKK HZ hR HSQ HIA HCS HV;go_wp2_with fail;refine HDO.o.mono ?_;rintro e w1 ⟨rfl,hb1⟩;have HF1:=aB (HF.o.call hb1);clear hb1 a0 a6 a8;go_wp2_with (refine bA (g:=W.heap.size+1) (i:=0) rfl rfl rfl rfl (cells3 (r1,r2,r3)) (HF1.o).r rfl rfl vlInfo rfl ?_)
    intro w9 hB9 hX9;obtain⟨q0,q1,q2⟩:=three3 hX9;go_wp2;refine bodyPost_ret (v:= .tuple #[VlV (r1,r2,r3),.int .i64 c]) (by simp[results,Tryz.results44,go_sem,q0,q1,q2]) rfl ⟨?_,hB9.bl (HF1.o).bl (by omega)⟩;rw[HZ2.o]
   ·have g3:(k==3)=false:=by rw[h4];rfl
    have HZ2:Hid (Z=(firstV acc,0)):=(by show _=_;rw[<-HZ.o,HSQ.o];unfold manyE;rw[if_neg (fun h=>h rfl),if_neg (by rw[h4];decide)]);clear h4 HKK HZ HSQ HIA HV a0 a6;obtain⟨w0,hwo⟩:∃w0,w0=wr:=⟨_,rfl⟩
    subst hwo;go_wp2_with fail;go_loopw [14] (fun i w5=>∃q:Nat,q<=acc.length/\i= .int .i64 (q:Int)/\Hid (firstV acc=firstV (acc.drop q))/\Hid (Bl w0 w5)) (fun i _=>acc.length-(intOf i).toNat)
    case atStart=>exact⟨0,dL _,rfl,rfl,Bl.refl _⟩
    case round=>
     obtain⟨q,hq,rfl,HD,HB⟩:=hrel;by_cases hlt:q<acc.length
     ·obtain⟨b,off,rfl,-,hbl,h3⟩:=HCS.o q hlt;have HN:=aB (HD.o.trans (firstV_drop hlt));have HB3:=aB (fun(w:World) (hb:Bl w0 w)=>(h3.keep (hb.block b hbl)).three);obtain⟨e0,e1,e2⟩:=HB3.o _ HB.o;have hlt':(q:Int)<(acc.length:Int):=(by omega);clear h3 hge;generalize acc[q]=y at *;have HWN:=aB (fun w=>wnull_any y w);obtain⟨y1,y2,y3⟩:=y;simp only at e0 e1 e2 HN HWN HB3;go_wp2_with fail;refine(HWN.o _).mono ?_;rintro e w6 ⟨rfl,hb6⟩;have HB6:=aB (HB.o.call hb6);clear hb6 e0 e1 e2;by_cases h0:y1=0
      ·have HN2:=aB (HN.o.trans (if_neg (fun h=>h h0)));subst h0;go_wp2;go_roundw
       case rel=>exact⟨q+1,by omega,by go_num,HN2.o,HB6.o⟩
       case measure=>simp[intOf];omega
      ·have HN2:=aB (HN.o.trans (if_pos h0));have g0:(y1==0)=false:=(by simpa using h0);obtain⟨e0,e1,e2⟩:=HB3.o _ HB6.o
       try simp only at e0 e1 e2
       have HF6:=aB (HF.o.call HB6.o);clear h0;go_wp2_with (refine bA (g:=W.heap.size+1) (i:=0) rfl rfl rfl rfl (cells3 (y1,y2,y3)) (HF6.o).r rfl rfl vlInfo rfl ?_)
       intro w9 hB9 hX9;obtain⟨q0,q1,q2⟩:=three3 hX9;go_wp2;refine bodyPost_ret (v:= .tuple #[VlV (y1,y2,y3),.int .i64 0]) (by simp[results,Tryz.results44,go_sem,q0,q1,q2]) rfl ⟨?_,hB9.bl (HF6.o).bl (by omega)⟩;rw[HZ2.o,HN2.o]
     ·obtain rfl:q=acc.length:=by omega
      have HN2:=aB (HD.o.trans (by rw[dO];rfl):firstV acc=zVl);have hge2:¬((acc.length:Int)<(acc.length:Int)):=(by omega);have HF6:=aB (HF.o.call HB.o);go_wp2_with (refine bA (g:=W.heap.size+1) (i:=0) rfl rfl rfl rfl (cells3 zVl) (HF6.o).r rfl rfl vlInfo rfl ?_)
      intro w9 hB9 hX9;obtain⟨q0,q1,q2⟩:=three3 hX9;go_wp2;refine bodyPost_ret (v:= .tuple #[VlV zVl,.int .i64 0]) (by simp[results,Tryz.results44,go_sem,q0,q1,q2]) rfl ⟨?_,hB9.bl (HF6.o).bl (by omega)⟩;rw[HZ2.o,HN2.o]
end
end Go.Proofs.YtdbkbfkpmnpldaaGreatDoor
