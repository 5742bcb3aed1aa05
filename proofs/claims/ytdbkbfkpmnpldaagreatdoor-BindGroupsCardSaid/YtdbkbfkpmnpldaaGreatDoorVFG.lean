/- Texts beside the shared ones. -/
import Derived.Test.YtdbkbfkpmnpldaaGreatDoorVX0
import Derived.Test.YtdbkbfkpmnpldaaGreatDoorVFE
namespace Go.Proofs.YtdbkbfkpmnpldaaGreatDoor
open Go.RowKit
open _root_.Array renaming getElem?_eq_some_iff->aC
open _root_.Go.RowKit.Below renaming grown->iL
open _root_.Go.Lib renaming hid->aB
open _root_.List renaming drop_eq_getElem_cons->aZ,drop_length->dO,getElem_mem->dS,length_append->bD,length_pos_iff->qH,length_singleton->dB,take_of_length_le->jS
open _root_.Nat renaming le_refl->aH,zero_le->dL
open _root_.Go.World renaming ownsRow_nil->d2l,size_alloc->aR
set_option maxRecDepth 100000
set_option maxHeartbeats 16000000
section
theorem vl1:(Tryz.prog.info? 26).map (fun i=>(i.zero.isSome,i.size))=some (true,3):=by kernel_rfl
theorem filter_snoc{α:Type}(p:α->Bool)(l:List α){j:Nat}(hj:j<l.length):(l.take (j+1)).filter p=(l.take j).filter p++if p l[j] then[l[j]] else[]:=by
 rw[takeD_snoc l hj,List.filter_append]
 congr 1
 cases h:p l[j]<;>simp[h]
theorem anyD_drop'{α:Type}(p:α->Bool){l:List α}{j:Nat}(hj:j<l.length):(l.drop j).any p=(p l[j]||(l.drop (j+1)).any p):=anyD_drop p hj
theorem foldl_drop{α:Type}(f:α->α->α)(m:α){r:List α}{j:Nat}(hj:j<r.length):(r.drop j).foldl f m=(r.drop (j+1)).foldl f (f m r[j]):=by
 rw[aZ hj];rfl
theorem rsum_count{n:List UInt8}{l:List Vl}{rows args:Nat}(h:n=gX):summedV n l rows args=(((2,((if args=0 then rows else(l.filter fun v=>v.1 != 0).length:Nat):Int),[]):Vl),(0:Int)):=by unfold summedV;simp only;rw[if_pos h]
theorem rsum_none{n:List UInt8}{l:List Vl}{rows args:Nat}(h:n≠gX)(h2:(l.filter fun v=>v.1 != 0)=[]):summedV n l rows args=(zVl,0):=by unfold summedV;simp only;rw[if_neg h,h2]
theorem rsum_sum{n:List UInt8}{l:List Vl}{rows args:Nat}(hn:n=c1m)(h2:(l.filter fun v=>v.1 != 0)≠[]):summedV n l rows args=if(l.filter fun v=>v.1 != 0).any (fun v=>v.1 != 2) then(zVl,120) else totalV (l.filter fun v=>v.1 != 0):=by
 unfold summedV;simp only;rw[if_neg (by rw[hn];decide)];cases h:l.filter fun v=>v.1 != 0 with
 |nil=>exact absurd h h2
 |cons a r=>simp only;rw[if_pos hn]
theorem rsum_best{n:List UInt8}{l:List Vl}{rows args:Nat}{a:Vl}{r:List Vl}(h:n≠gX)(hn:n≠c1m)(h2:(l.filter fun v=>v.1 != 0)=a::r):summedV n l rows args=(r.foldl (bestV (n==c1n)) a,0):=by
 unfold summedV;simp only;rw[if_neg h,h2];simp only;rw[if_neg hn]
structure VaF(W A:World):Prop where
 r:A.heap[W.heap.size]?=some (.cells #[.int .i64 0,.int .i64 0,S []] 26 (0,0))
 bl:Bl W A
theorem VaF.call{W A B:World}(h:VaF W A)(hb:Bl A B):VaF W B:=⟨keep_b h.r hb,h.bl.call hb⟩
theorem VaF.start(W:World):VaF W (W.alloc (.cells #[.int .i64 0,.int .i64 0,S []] 26)):=⟨aN W _,(Bl.refl W).alloc _⟩
theorem wsummed_any{n:List UInt8}(hn:Four n){l:List Vl}(hlen:l.length<=1000000)(hI:∀v∈l,Int2 v)(rows args:Nat)(_hrows:rows<=1000000)(W:World)(a:Option Addr)(cap:Nat){p:Nat->Prop}(hR:ReadsVl p W (.slice a l.length cap) l):
  Calls Tryz.prog 68 #[S n,.slice a l.length cap,.int .i64 rows,.int .i64 args] W fun e w'=>e= .returned (.tuple #[VlV (summedV n l rows args).1,.int .i64 (summedV n l rows args).2])/\Bl W w':=by
 obtain⟨a',cap',e,hc⟩:=hR.shape;obtain⟨rfl,rfl⟩:a=a'/\cap=cap':=(by simpa using e);have HC:=aB hc;have HI:=aB hI;have HN:=aB hn;obtain⟨Z,HZ⟩:∃Z,Hid (summedV n l rows args=Z):=⟨_,rfl⟩
 rw[HZ.o];have HF0:=aB (VaF.start W);clear hR hc e hI hn;go_enter Tryz.func68,Tryz.ntmps68;go_wp2_with fail;go_loopw [10,11] (fun sv i wr=>∃(j:Nat) (v0:Value) (fl:List Vl),v0=sv/\j<=l.length/\i= .int .i64 (j:Int)/\fl.length<=j/\Hid ((l.take j).filter (fun v=>v.1 != 0)=fl)/\Hid (wr.ownsRow (W.heap.size+1) 26 3 v0 fl.length (fl.flatMap cells3))/\Hid (VaF W wr)) (fun _ i _=>l.length-(intOf i).toNat)
 case atStart=>exact⟨0,_,[],rfl,dL _,rfl,aH _,rfl,d2l _ _ _ _,HF0.o⟩
 case round=>
  obtain⟨j,v0,fl,rfl,hj,rfl,hfl,HL,HO,HF⟩:=hrel;by_cases hlt:j<l.length
  ·obtain⟨b,off,rfl,-,hbl,h3⟩:=HC.o j hlt;have HSN:=aB (filter_snoc (fun v:Vl=>v.1 != 0) l hlt);rw[HL.o] at HSN;obtain⟨e0,e1,e2⟩:=(h3.keep (HF.o.bl.block b hbl)).three;have hlt':(j:Int)<(l.length:Int):=(by omega);clear h3;generalize l[j]=y at *;have HWN:=aB (fun w=>wnull_any y w);obtain⟨y1,y2,y3⟩:=y;simp only at e0 e1 e2 HSN HWN;go_wp2_with fail;refine(HWN.o _).mono ?_;rintro e w1 ⟨rfl,hb1⟩;have HF1:=aB (HF.o.call hb1);have HO1:=aB (gY hb1 HO.o);have hsz:W.heap.size+1<=w1.heap.size:=(by have:=(aC.1 HF1.o.r).1;omega);have f0:=Bl.cell hb1 e0;have f1:=Bl.cell hb1 e1;have f2:=Bl.cell hb1 e2;clear hb1 e0 e1 e2;by_cases h0:y1=0
   ·have HS1:=aB (HSN.o.trans (by rw[show(y1 != 0)=false from by simpa using h0];simp):(l.take (j+1)).filter (fun v=>v.1 != 0)=fl);subst h0;go_wp2;go_roundw
    case rel=>exact⟨j+1,_,fl,rfl,by omega,by go_num,by omega,HS1.o,HO1.o,HF1.o⟩
    case measure=>simp[intOf];omega
   ·have HS1:=aB (HSN.o.trans (by rw[show(y1 != 0)=true from by simpa using h0];rfl):(l.take (j+1)).filter (fun v=>v.1 != 0)=fl++[(y1,y2,y3)]);have g0:(y1==0)=false:=(by simpa using h0);clear h0;have hlow:=aB HO1.o.lt;go_wp2_with (first |(refine d8l (vs:=[.int .i64 y1,.int .i64 y2,S y3]) rfl (t:=47) (y:= .tmp 33) rfl Tryz.underlying47 rfl vl1 rfl ?_)|(at_builtin;refine wpList_append_row rfl (.tmp 29) (.tmp 34) rfl vlFull Tryz.underlying47 rfl (by decide) (by decide) (W.heap.size+1) _ fl.length _ rfl (gY ((Bl.refl _).alloc _) HO1.o) w1.heap.size [.int .i64 y1,.int .i64 y2,S y3] rfl (aN w1 _) rfl rfl (by omega) (by rw[aR];omega) ?_))
    intro v2 w2 hown2 hg2 _;have hkeep:∀i,i<W.heap.size+1->w2.heap[i]?=w1.heap[i]?:=fun i hi=>(hg2.block i (by simp;omega) (fun e=>by have:=(hlow.o i e.symm).1;omega)).trans (aW w1 _ (by omega));have HF2:=aB (show VaF W w2 from⟨(hkeep _ (by omega)).trans HF1.o.r,iL (HF1.o.bl.alloc (.cells #[.int .i64 y1,.int .i64 y2,S y3] 26)) hg2 (by simp;omega) (fun i hi=>by have:=(hlow.o i hi).1;omega)⟩);have HO2:=aB (show w2.ownsRow (W.heap.size+1) 26 3 v2 (fl++[(y1,y2,y3)]).length ((fl++[(y1,y2,y3)]).flatMap cells3) from by rw[bD,List.flatMap_append];exact hown2);clear hown2 hg2 hkeep f0 f1 f2;go_wp2;go_roundw
    case rel=>exact⟨j+1,_,fl++[(y1,y2,y3)],rfl,by omega,by go_num,by rw[bD,dB];omega,HS1.o,HO2.o,HF2.o⟩
    case measure=>simp[intOf];omega
  ·obtain rfl:j=l.length:=by omega
   have HL2:=aB (show l.filter (fun v=>v.1 != 0)=fl from by have h:=HL.o;rwa [jS (aH _)] at h);have HV:=aB (own_vals HO.o);have HIF:=aB (show ∀v∈fl,Int2 v from fun v hv=>by rw[<-HL2.o] at hv;exact HI.o v (List.mem_filter.1 hv).1);obtain⟨va,vc,hva,hcs⟩:=HV.o.shape;have HCS:=aB hcs;have HNV:=aB HV.o;subst hva;have hge:¬((l.length:Int)<(l.length:Int)):=(by omega);have hfn:fl.length<=1000000:=(by omega);clear HO HV HL HC HI hcs hfl;by_cases hc:n=gX
   ·have gc:(n==[99,111,117,110,116])=true:=by rw[hc];rfl
    have HZ2:=aB (HZ.o.symm.trans (rsum_count hc));rw[HL2.o] at HZ2;clear hc HZ;by_cases ha:args=0
    ·have ga:((args:Int)==0)=true:=by rw[ha];rfl
     have HZ3:=aB (HZ2.o.trans (by rw[if_pos ha]));clear ha;go_wp2_with (refine bA (g:=W.heap.size) (i:=0) rfl rfl rfl rfl (cells3 (2,(rows:Int),[])) (HF.o).r rfl rfl vlInfo rfl ?_)
     intro w9 hB9 hX9;obtain⟨q0,q1,q2⟩:=three3 hX9;go_wp2;refine bodyPost_ret (v:= .tuple #[VlV (2,(rows:Int),[]),.int .i64 0]) (by simp[results,Tryz.results68,go_sem,q0,q1,q2]) rfl ⟨?_,hB9.bl (HF.o).bl (by omega)⟩;rw[HZ3.o]
    ·have ga:((args:Int)==0)=false:=by simpa using ha
     have HZ3:=aB (HZ2.o.trans (by rw[if_neg ha]));clear ha;go_wp2_with (refine bA (g:=W.heap.size) (i:=0) rfl rfl rfl rfl (cells3 (2,(fl.length:Int),[])) (HF.o).r rfl rfl vlInfo rfl ?_)
     intro w9 hB9 hX9;obtain⟨q0,q1,q2⟩:=three3 hX9;go_wp2;refine bodyPost_ret (v:= .tuple #[VlV (2,(fl.length:Int),[]),.int .i64 0]) (by simp[results,Tryz.results68,go_sem,q0,q1,q2]) rfl ⟨?_,hB9.bl (HF.o).bl (by omega)⟩;rw[HZ3.o]
   have gc:(n==[99,111,117,110,116])=false:=(by simpa[gX] using hc);by_cases he:fl=[]
   ·subst he;have HZ2:=aB (HZ.o.symm.trans (rsum_none hc HL2.o));clear hc HZ;go_wp2_with (refine bA (g:=W.heap.size) (i:=0) rfl rfl rfl rfl (cells3 zVl) (HF.o).r rfl rfl vlInfo rfl ?_)
    intro w9 hB9 hX9;obtain⟨q0,q1,q2⟩:=three3 hX9;go_wp2;refine bodyPost_ret (v:= .tuple #[VlV zVl,.int .i64 0]) (by simp[results,Tryz.results68,go_sem,q0,q1,q2]) rfl ⟨?_,hB9.bl (HF.o).bl (by omega)⟩;rw[HZ2.o]
   have hl0:0<fl.length:=qH.2 he;have gl:((fl.length:Int)==0)=false:=(by simpa using(show ¬(fl.length:Int)=0 by omega));by_cases hs:n=c1m
   ·have gs:(n==[115,117,109])=true:=by rw[hs];rfl
    have HZ2:=aB (HZ.o.symm.trans (rsum_sum hs (by rw[HL2.o];exact he)));rw[HL2.o] at HZ2;have HWT:Hid (∀W',Bl wr W'->Calls Tryz.prog 97 #[.slice va fl.length vc] W' fun e w'=>e= .returned (.tuple #[VlV (totalV fl).1,.int .i64 (totalV fl).2])/\Bl W' w'):=fun W' hb=>wtotal_any (by omega) (fun y hy=>(HIF.o y hy).2) (HNV.o.bl hb);clear hc HZ he hs;go_wp2_with fail;go_loopw [13] (fun i w2=>∃j:Nat,j<=fl.length/\i= .int .i64 (j:Int)/\Hid (fl.any (fun v=>v.1 != 2)=(fl.drop j).any (fun v=>v.1 != 2))/\w2=wr) (fun i _=>fl.length-(intOf i).toNat)
    case atStart=>exact⟨0,dL _,rfl,rfl,rfl⟩
    case round=>
     obtain⟨j,hj,rfl,HD,rfl⟩:=hrel;by_cases hlt:j<fl.length
     ·obtain⟨b,off,rfl,-,hbl,h3⟩:=HCS.o j hlt;obtain⟨e0,-,-⟩:=h3.three;have HN2:=aB (HD.o.trans (anyD_drop (fun v:Vl=>v.1 != 2) hlt));have hlt':(j:Int)<(fl.length:Int):=(by omega);clear h3 hge;generalize fl[j].1=y at *;by_cases h2:y=2
      ·have HN3:=aB (HN2.o.trans (by rw[show(y != 2)=false from by simpa using h2,Bool.false_or]));subst h2;go_wp2;go_roundw
       case rel=>exact⟨j+1,by omega,by go_num,HN3.o,by first |rfl|trivial⟩
       case measure=>simp[intOf];omega
      ·have g2:(y != 2)=true:=by simpa using h2
       have HN3:=aB (HZ2.o.trans (if_pos (by rw[HN2.o,g2];rfl)));clear h2;go_wp2_with (refine bA (g:=W.heap.size) (i:=0) rfl rfl rfl rfl (cells3 zVl) (HF.o).r rfl rfl vlInfo rfl ?_)
       intro w9 hB9 hX9;obtain⟨q0,q1,q2⟩:=three3 hX9;go_wp2;refine bodyPost_ret (v:= .tuple #[VlV zVl,.int .i64 120]) (by simp[results,Tryz.results68,go_sem,q0,q1,q2]) rfl ⟨?_,hB9.bl (HF.o).bl (by omega)⟩;rw[HN3.o]
     ·obtain rfl:j=fl.length:=by omega
      have HN3:=aB (HZ2.o.trans (if_neg (by rw[HD.o,dO];decide)));have hge2:¬((fl.length:Int)<(fl.length:Int)):=(by omega);obtain⟨R,HRR⟩:∃R,Hid (totalV fl=R):=⟨_,rfl⟩
      rw[HRR.o] at HWT HN3;obtain⟨⟨r1,r2,r3⟩,rc⟩:=R;clear HZ2 HD HCS;go_wp2_with fail;refine(HWT.o _ (Bl.refl _)).mono ?_;rintro e w5 ⟨rfl,hb5⟩;have HF5:=aB (HF.o.call hb5);clear hb5;go_wp2_with (refine bA (g:=W.heap.size) (i:=0) rfl rfl rfl rfl (cells3 (r1,r2,r3)) (HF5.o).r rfl rfl vlInfo rfl ?_)
      intro w9 hB9 hX9;obtain⟨q0,q1,q2⟩:=three3 hX9;go_wp2;refine bodyPost_ret (v:= .tuple #[VlV (r1,r2,r3),.int .i64 rc]) (by simp[results,Tryz.results68,go_sem,q0,q1,q2]) rfl ⟨?_,hB9.bl (HF5.o).bl (by omega)⟩;rw[HN3.o]
   have gs:(n==[115,117,109])=false:=(by simpa[c1m] using hs);obtain⟨x,r,hxr⟩:∃x r,fl=x::r:=by
    cases fl with
    |nil=>exact absurd rfl he
    |cons x r=>exact⟨x,r,rfl⟩
   have HXR:=aB hxr;have HZ2:=aB (HZ.o.symm.trans (rsum_best hc hs (HL2.o.trans hxr)));have HX0:=aB (show fl[0]=x from by simp[hxr]);have HIX:=aB (HIF.o x (by rw[hxr];simp));have hl1:1<=fl.length:=hl0;clear hxr;have hmm:n=c1n\/n=c1o:=by rcases HN.o with h|h|h|h;exact absurd h hc;exact absurd h hs;exact .inl h;exact .inr h
   clear hc hs he HZ;obtain⟨wr_old,hwo⟩:∃w0,w0=wr:=⟨_,rfl⟩
   subst hwo;obtain⟨b,off,rfl,-,hbl,h3⟩:=HCS.o 0 hl0;rw[HX0.o] at h3;obtain⟨e0,e1,e2⟩:=h3.three;simp only[Nat.zero_mul,Nat.add_zero] at e0 e1 e2;clear h3;obtain⟨x1,x2,x3⟩:=x;simp only at e0 e1 e2;have HFA:=aB (HF.o.call ((Bl.refl wr_old).alloc (.cells #[.int .i64 x1,.int .i64 x2,S x3] 26)));have HOA:=aB (aN wr_old (.cells #[.int .i64 x1,.int .i64 x2,S x3] 26));have HBA:=aB ((Bl.refl wr_old).alloc (.cells #[.int .i64 x1,.int .i64 x2,S x3] 26));have hszr:W.heap.size+1<=wr_old.heap.size:=(by have:=(aC.1 HF.o.r).1;omega);obtain⟨bb,hbb⟩:∃bb,(n==c1n)=bb:=⟨_,rfl⟩
   rw[hbb] at HZ2;obtain⟨R,HRR⟩:∃R,Hid (r.foldl (bestV bb) (x1,x2,x3)=R):=⟨_,rfl⟩
   rw[HRR.o] at HZ2;go_wp2_with fail;go_loopw [15] (fun i w2=>∃(j:Nat) (m:Vl),1<=j/\j<=fl.length/\i= .int .i64 (j:Int)/\Int2 m/\Hid (w2.heap[wr_old.heap.size]?=some (.cells #[.int .i64 m.1,.int .i64 m.2.1,S m.2.2] 26 (0,0)))/\Hid (R=(fl.drop j).foldl (bestV bb) m)/\Hid (Bl wr_old w2)) (fun i _=>fl.length-(intOf i).toNat)
   case atStart=>exact⟨1,(x1,x2,x3),aH _,hl1,by go_num,HIX.o,HOA.o,by rw[HXR.o];exact HRR.o.symm,HBA.o⟩
   case round=>
    obtain⟨j,m,hj1,hj,rfl,hmi,HH,HM,HB⟩:=hrel;obtain⟨m1,m2,m3⟩:=m;simp only at HH;obtain⟨f0,f1,f2⟩:=three3 HH.o;have hszw:wr_old.heap.size<wr.heap.size:=(aC.1 HH.o).1;by_cases hlt:j<fl.length
    ·obtain⟨b',off',hbo,-,hbl',h3⟩:=HCS.o j hlt;obtain⟨rfl,rfl⟩:b=b'/\off=off':=(by simpa using hbo);obtain⟨e0,e1,e2⟩:=(h3.keep (HB.o.block _ hbl')).three;have hlt':(j:Int)<(fl.length:Int):=(by omega);have HN:=aB (show R=(fl.drop (j+1)).foldl (bestV bb) (bestV bb (m1,m2,m3) fl[j]) from by rw[HM.o];exact foldl_drop _ _ hlt);have HIY:=aB (HIF.o _ (dS hlt));clear h3 HM;generalize fl[j]=y at *;obtain⟨y1,y2,y3⟩:=y;simp only at e0 e1 e2;have HO:=aB (fun w=>rOrder_any y1 y2 y3 m1 m2 m3 HIY.o.1.1 HIY.o.1.2 hmi.1.1 hmi.1.2 w);obtain⟨c,hc⟩:∃c,d2h y1 y2 y3 m1 m2 m3=c:=⟨_,rfl⟩
     rw[hc] at HO;have HBV:=aB (show bestV bb (m1,m2,m3) (y1,y2,y3)=if(bb=true/\c<0)\/(bb=false/\0<c) then(y1,y2,y3) else(m1,m2,m3) from by
      unfold bestV ordVl;simp only[hc];cases bb<;>simp)
     have HKP:=aB hmi;clear hc hmi;go_wp2_with fail
     go_still_tail 5,(by kernel_rfl)
     go_wp2_with fail;refine(HO.o _).mono ?_;rintro e w1 ⟨rfl,hb0⟩;have hb1:Bl wr w1:=(Bl.refl wr).drew.call hb0;have HB1:=aB (HB.o.call hb1);have HH1:=aB (keep_b HH.o hb1);have g0:=Bl.cell hb1 e0;have g1:=Bl.cell hb1 e1;have g2:=Bl.cell hb1 e2;clear hb1 hb0 e0 e1 e2 f0 f1 f2;by_cases hs:(bb=true/\c<0)\/(bb=false/\0<c)
     ·have HN2:=aB (HN.o.trans (by rw[HBV.o,if_pos hs]):R=(fl.drop (j+1)).foldl (bestV bb) (y1,y2,y3));clear HN HBV;rcases hs with⟨rfl,hs⟩|⟨rfl,hs⟩
      ·have gm:(n==[109,105,110])=true:=hbb;go_wp2_with (refine bA (g:=wr_old.heap.size) (i:=0) rfl rfl rfl rfl (cells3 (y1,y2,y3)) HH1.o rfl rfl vlInfo rfl ?_)
       intro w3 hB3 hX3;have HX3:=aB hX3;have HB3:=aB (hB3.bl HB1.o (aH _));clear hX3 hB3;go_wp2;go_roundw
       case rel=>exact⟨j+1,(y1,y2,y3),by omega,by omega,by go_num,HIY.o,HX3.o,HN2.o,HB3.o⟩
       case measure=>simp[intOf];omega
      ·have gm:(n==[109,105,110])=false:=hbb;have gx:(n==[109,97,120])=true:=by rcases hmm with h|h;(rw[h] at hbb;cases hbb);(rw[h];rfl)
       go_wp2_with (refine bA (g:=wr_old.heap.size) (i:=0) rfl rfl rfl rfl (cells3 (y1,y2,y3)) HH1.o rfl rfl vlInfo rfl ?_)
       intro w3 hB3 hX3;have HX3:=aB hX3;have HB3:=aB (hB3.bl HB1.o (aH _));clear hX3 hB3;go_wp2;go_roundw
       case rel=>exact⟨j+1,(y1,y2,y3),by omega,by omega,by go_num,HIY.o,HX3.o,HN2.o,HB3.o⟩
       case measure=>simp[intOf];omega
     ·have HN2:=aB (HN.o.trans (by rw[HBV.o,if_neg hs]):R=(fl.drop (j+1)).foldl (bestV bb) (m1,m2,m3));clear HN HBV;cases bb
      ·have gm:(n==[109,105,110])=false:=hbb;have gx:(n==[109,97,120])=true:=by rcases hmm with h|h;(rw[h] at hbb;cases hbb);(rw[h];rfl)
       have hs2:¬0<c:=fun h=>hs (.inr ⟨rfl,h⟩);clear hs;go_wp2;go_roundw
       case rel=>exact⟨j+1,(m1,m2,m3),by omega,by omega,by go_num,HKP.o,HH1.o,HN2.o,HB1.o⟩
       case measure=>simp[intOf];omega
      ·have gm:(n==[109,105,110])=true:=hbb;have gx:(n==[109,97,120])=false:=(by rw[show n=c1n from by simpa using hbb];rfl);have hs2:¬c<0:=fun h=>hs (.inl ⟨rfl,h⟩);clear hs;go_wp2;go_roundw
       case rel=>exact⟨j+1,(m1,m2,m3),by omega,by omega,by go_num,HKP.o,HH1.o,HN2.o,HB1.o⟩
       case measure=>simp[intOf];omega
    ·have hq:j=fl.length:=by omega
     have HN:=aB (show R=(m1,m2,m3) from by rw[HM.o,List.drop_of_length_le (by omega)];rfl);have hge2:¬((j:Int)<(fl.length:Int)):=(by omega);have HF9:=aB (HF.o.call HB.o);clear hq HM;go_wp2_with (refine bA (g:=W.heap.size) (i:=0) rfl rfl rfl rfl (cells3 (m1,m2,m3)) (HF9.o).r rfl rfl vlInfo rfl ?_)
     intro w9 hB9 hX9;obtain⟨q0,q1,q2⟩:=three3 hX9;go_wp2;refine bodyPost_ret (v:= .tuple #[VlV (m1,m2,m3),.int .i64 0]) (by simp[results,Tryz.results68,go_sem,q0,q1,q2]) rfl ⟨?_,hB9.bl (HF9.o).bl (by omega)⟩;rw[HZ2.o,HN.o]
end
end Go.Proofs.YtdbkbfkpmnpldaaGreatDoor
