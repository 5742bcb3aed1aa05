/- Texts N4 SE. -/
import Derived.Test.YtohlomdapelgeaaGreatDoorCP
namespace Go.Proofs.YtohlomdapelgeaaGreatDoor
open _root_.Go.Proofs.Tryz
open Go.RowKit
open _root_.Go.Lib renaming hid->aB
open _root_.List renaming length_append->bD,map_append->kW,mem_append->iX,mem_singleton->gQ
open _root_.Nat renaming le_refl->aH,zero_le->dL
open _root_.Go.World renaming ownsRow_nil->d2l,size_alloc->aR
set_option maxRecDepth 100000
set_option maxHeartbeats 4000000
section
end
section
theorem setInfo:(prog.info? 63).map (·.size)=some 9:=by kernel_rfl
theorem znames_any{W:World}{bs g cap k:Nat}{ts:List Tok}(h:iV W bs g cap ts k)(hT:lC ts):eg 188 #[RV bs] W (d2o (RowsGV gStr W.heap.size) bs g cap ts W (namesR ts false k)):=by
 have HB0:=aB ((Bl.refl W).alloc (.cells #[.pointer (some ⟨bs,0,none⟩)] 122));have HF0:=aB (FrY.start W bs);have HTK:=aB hT;obtain⟨R,HR⟩:∃R,Hid (R=namesR ts false k):=⟨_,rfl⟩
 rw[<-HR.o];clear hT;have H:=aB h;have hbl:=h.lt';have hgl:=h.gl;clear h;have HS0:=aB (H.o.bl HB0.o);go_enter func188,ntmps188;go_wp2_with fail
 (with_reducible refine(b9a HS0.o).mono ?_)
 rintro e w' ⟨rfl,rfl⟩;cases ht:bH ts k [[40]] with
 |none=>
  have HT:=aB ht;have HE:=aB (show R= .good k [] from by rw[HR.o];unfold namesR;rw[ht];rfl);clear ht;go_wp2_with fail;refine(kM HS0.o [[40]] HT.o _ 1 _ _ rfl rfl aa aa).mono ?_;rintro e w1 ⟨rfl,hg,hs⟩;have HF1:=aB (HF0.o.next hbl hg);have HS1:=aB hs;clear hg hs;go_wp2;go_ret;exact d2o.yes HF1.o.grown HS1.o HE.o (RowsG.nil _ _ _ _)
 |some k1=>
  have HT:=aB ht;have HE:=aB (show R=parenR ts (nameRW ts) k from by rw[HR.o];unfold namesR;rw[ht]);clear ht;go_wp2_with fail;refine(jD HS0.o [[40]] HT.o _ 1 _ _ rfl rfl aa aa).mono ?_;rintro e w1 ⟨rfl,hg,hs⟩;have HF1:=aB (HF0.o.next hbl hg);have HS1:=aB hs;clear hg hs;have a0:=cK HF1.o.r;go_wp2_with fail;refine(b4r HS1.o (k:Int)).mono ?_;rintro e w2 ⟨hg2,(⟨-,-,rfl,hs2⟩|⟨hn,-,-⟩)⟩;rotate_left
  ·exact absurd ⟨by omega,by have:=H.o.lt;omega⟩ hn
  rw[Int.toNat_natCast] at hs2;have HF2:=aB (HF1.o.next hbl hg2);have HS2:=aB hs2;have hz2:=HF2.o.size;clear hg2 hs2 a0;have a0:=cK HF2.o.r;go_wp2_with fail;refine(zinsideStr_any HS2.o HTK.o).mono ?_;intro e w3 hp;obtain⟨hg3,k3,hs3,hcase⟩:=hp;have HF3:=aB (HF2.o.next hbl hg3);have HS3:=aB hs3;clear hg3 hs3 a0;rcases hcase with⟨l,v,hr,hl,rfl⟩|⟨c,hc,hr,rfl⟩
  ·have HE2:=aB (HE.o.trans hr);obtain⟨a,c,rfl,-⟩:=id hl;have HL:=aB hl;clear hr hl;go_wp2;go_ret;exact d2o.yes HF3.o.grown HS3.o HE2.o (HL.o.low fun b _ (hb:_<=b)=>by omega)
  ·have HE2:=aB (HE.o.trans hr);clear hr;go_wp2;exact⟨rfl,d2o.no HF3.o.grown HS3.o hc HE2.o⟩
theorem zrow_any{W:World}{bs g cap k:Nat}{ts:List Tok}(h:iV W bs g cap ts k)(hT:lC ts):eg 190 #[RV bs] W (d2o (RowsGV gEx W.heap.size) bs g cap ts W (rowR ts k)):=by
 have HB0:=aB ((Bl.refl W).alloc (.cells #[.pointer (some ⟨bs,0,none⟩)] 122));have HF0:=aB (FrY.start W bs);have HTK:=aB hT;obtain⟨R,HR⟩:∃R,Hid (R=rowR ts k):=⟨_,rfl⟩
 rw[<-HR.o];clear hT;have H:=aB h;have hbl:=h.lt';have hgl:=h.gl;clear h;go_enter func190,ntmps190;go_wp2_with fail;refine(zinsideEx_any (H.o.bl HB0.o) HTK.o).mono ?_;intro e w3 hp;obtain⟨hg3,k3,hs3,hcase⟩:=hp;have HF3:=aB (HF0.o.next hbl hg3);have HS3:=aB hs3;clear hg3 hs3;rcases hcase with⟨l,v,hr,hl,rfl⟩|⟨c,hc,hr,rfl⟩
 ·have HE2:=aB (HR.o.trans hr);obtain⟨a,c,rfl,-⟩:=id hl;have HL:=aB hl;clear hr hl;go_wp2;go_ret;exact d2o.yes HF3.o.grown HS3.o HE2.o (HL.o.low fun b _ (hb:_<=b)=>by simp at hb;omega)
 ·have HE2:=aB (HR.o.trans hr);clear hr;go_wp2;exact⟨rfl,d2o.no HF3.o.grown HS3.o hc HE2.o⟩
theorem zrow_g{W:World}{bs g cap k:Nat}{ts:List Tok}(h:iV W bs g cap ts k)(hT:lC ts):eg 190 #[RV bs] W (d2o (ReadsG gRow W.heap.size) bs g cap ts W (rowR ts k)):=(zrow_any h hT).mono fun _ _ h=>h.map fun _ _ _ hr=>readsG_row hr
theorem zset_any{W:World}{bs g cap k:Nat}{ts:List Tok}(h:iV W bs g cap ts k)(hT:lC ts):eg 249 #[RV bs] W (d2o (ReadsG gSt W.heap.size) bs g cap ts W (setR ts k)):=by
 have HB0:=aB (((Bl.refl W).alloc (.cells #[.pointer (some ⟨bs,0,none⟩)] 122)).alloc (.cells #[S [],.int .i64 0,.int .i64 0,.int .i64 0,S [],S [],S [],.int .i64 0,.slice none 0 0] 63));have HF0:=aB (FrZ.start W bs 63 #[S [],.int .i64 0,.int .i64 0,.int .i64 0,S [],S [],S [],.int .i64 0,.slice none 0 0]);have HTK:=aB hT;obtain⟨R,HR⟩:∃R,Hid (R=setR ts k):=⟨_,rfl⟩
 rw[<-HR.o];clear hT;have H:=aB h;have hbl:=h.lt';have hgl:=h.gl;clear h;go_enter func249,ntmps249;go_wp2_with fail;refine(zname_any (H.o.bl HB0.o)).mono ?_;intro e w1 hp;obtain⟨hg1,k1,hs1,hcase⟩:=hp;have HF1:=aB (HF0.o.next hbl hg1);have HS1:=aB hs1;clear hg1 hs1;rcases hcase with⟨n,v,hr1,rfl,rfl⟩|⟨c,hc,hr1,rfl⟩
 rotate_left
 ·have HE:=aB (HR.o.trans (d2u.bind_bad hr1));clear hr1;go_wp2;exact⟨rfl,d2o.no HF1.o.grown HS1.o hc HE.o⟩
 have HE1:=aB (HR.o.trans (d2u.bind_yes hr1));have a0:=cK HF1.o.r;clear hr1;go_wp2_with fail;refine(zneed_any HS1.o [[61]] _ 1 _ _ rfl rfl aa aa).mono ?_;intro e w2 hp;obtain⟨hg2,k2,hs2,hcase⟩:=hp;have HF2:=aB (HF1.o.next hbl hg2);have HS2:=aB hs2;clear hg2 hs2 a0;rcases hcase with⟨_,v,hr2,rfl,rfl⟩|⟨c,hc,hr2,rfl⟩
 rotate_left
 ·have HE:=aB (HE1.o.trans (d2u.bind_bad hr2));clear hr2;go_wp2;exact⟨rfl,d2o.no HF2.o.grown HS2.o hc HE.o⟩
 have HE2:=aB (HE1.o.trans (d2u.bind_yes hr2));have a0:=cK HF2.o.r;have hz2:=HF2.o.size;clear hr2;go_wp2_with fail;refine(zexpr_any HS2.o HTK.o).mono ?_;intro e w3 hp;obtain⟨hg3,k3,hs3,hcase⟩:=hp.openE;have HF3:=aB (HF2.o.next hbl hg3);have HS3:=aB hs3;clear hp hg3 hs3 a0;rcases hcase with⟨xk,x1,x2,x3,xt,xn,xo,xa,asv,csv,hr,hA,rfl⟩|⟨c,hc,hr,rfl⟩
 ·have HA:=aB (hA.of (q:=fun b=>W.heap.size+2<=b) fun b _ (hb:_<=b)=>by omega);have HE3:=aB (HE2.o.trans (d2u.bind_yes hr));clear hr hA;go_wp2_with (refine bA (g:=W.heap.size+1) (i:=0) rfl rfl rfl rfl [S n,.int .i64 xk,.int .i64 x1,.int .i64 x2,S x3,S xt,S xn,.int .i64 xo,.slice asv xa.length csv] HF3.o.x rfl rfl setInfo rfl ?_)
  intro w9 hB9 hX9;go_wp2;refine bodyPost_ret (v:= .agg #[S n,.int .i64 xk,.int .i64 x1,.int .i64 x2,S x3,S xt,S xn,.int .i64 xo,.slice asv xa.length csv]) (results_cell_row (p:=2) (ty:=63) rfl _ _ (W.heap.size+1) 63 _ (0,0) _ rfl hX9 underlying63 rfl setInfo) rfl ?_;exact d2o.yes (HF3.o.but hB9 hX9).grown (HS3.o.but hB9 aE aE) HE3.o ⟨_,rfl,_,rfl,(HA.o.but hB9 (fun i (hi:_<=i)=>by omega)).of fun b _ (hb:_<=b)=>by omega⟩
 ·have HE3:=aB (HE2.o.trans (d2u.bind_bad hr));clear hr;go_wp2;exact⟨rfl,d2o.no HF3.o.grown HS3.o hc HE3.o⟩
theorem zlistRow_any{W:World}{bs g cap k:Nat}{ts:List Tok}(h:iV W bs g cap ts k)(hT:lC ts):eg 189 #[RV bs,.func (.func 190) #[RV bs] #[]] W (d2o (RowsGV gRow W.heap.size) bs g cap ts W (d3o ts (rowR ts) ts.length k [])):=by
 obtain⟨R,HR⟩:∃R,Hid (R=d3o ts (rowR ts) ts.length k []):=⟨_,rfl⟩
 rw[<-HR.o];have HL0:=aB (show d8b ts (rowR ts) R k [] from by rw[HR.o];exact d8b.start ts _ k);have HF0:=aB (FrY.start W bs);have HTK:=aB hT;have HS0:=aB (h.bl ((Bl.refl W).alloc (.cells #[.pointer (some ⟨bs,0,none⟩)] 122)));have hbl:=h.lt';have hgl:=h.gl;have HI1:=aB (show(prog.info? 36).map (fun i=>(i.zero.isSome,i.size))=some (true,1) from by kernel_rfl);have HI2:=aB (show(prog.info? 36).map (fun i=>(i.zero,i.size,i.bytes))=some (some (.slice none 0 0),1,24) from by kernel_rfl);clear h hT;go_enter func189,ntmps189;go_wp2_with fail;go_loopw [4] (fun o wr=>∃(v0:Value) (kk:Nat) (acc:List (_×List Value)),v0=o/\acc.length<=kk/\Hid (FrY W wr bs)/\Hid (iV wr bs g cap ts kk)/\Hid (wr.ownsRow (W.heap.size+1) 36 1 v0 acc.length (rowG acc))/\
  Hid (∀q∈acc,Shp.lies gRow (apartG (W.heap.size+1) wr v0) wr q.1 q.2)/\Hid (d8b ts (rowR ts) R kk (acc.map (·.1)))) (fun _ wr=>ts.length-tH wr bs)
 case atStart=>exact⟨_,k,[],rfl,dL _,HF0.o,HS0.o,d2l _ _ _ _,aB (fun q hq=>by cases hq),HL0.o⟩
 case round=>
  clear HF0 HS0 HL0 HR;obtain⟨v0,kk,acc,rfl,hak,HF,HS,HO,HTR,HL⟩:=hrel;have hkk:=HS.o.lt;have hfew:=HS.o.few;have hzr:=HF.o.size;have p0:=cK HF.o.r;have HP:Hid (∀k1 x,rowR ts kk= .good k1 x->kk<k1/\k1<ts.length):=fun k1 x h=>(rowR_past HTK.o hkk h)
  have HST:=aB (HL.o.step hkk fun k1 x h=>(HP.o k1 x h).1);go_wp2_with fail;refine(zrow_g HS.o HTK.o).mono ?_;intro e w1 hp;obtain⟨hg1,k1,hs1,hcase⟩:=hp;have hz1:=hg1.4;have HF1:=aB (HF.o.next hbl hg1);have HS1:=aB hs1;have HO1:=aB (pO HO.o hg1 aE);have HTR1:=aB (show ∀q∈acc,Shp.lies gRow (apartG (W.heap.size+1) w1 v0) w1 q.1 q.2 from fun q hq=>lies_grown (HTR.o q hq) hg1 aE);have hlow:=aB HO.o.lt;clear p0 hg1 hs1;rcases hcase with⟨x,v,hr,hA,rfl⟩|⟨c,hc,hr,rfl⟩
  rotate_left
  ·have HB:=aB (HST.o.1 c hr);clear hr;go_wp2;exact⟨rfl,d2o.no HF1.o.grown HS1.o hc HB.o⟩
  obtain⟨cs,hvc,hcs⟩:=hA;have hcl:=Shp.len gRow hcs;have hco:=Shp.one gRow hcs;have HZ:=aB (show Shp.lies gRow (apartG (W.heap.size+1) w1 v0) w1 x cs from Shp.keep gRow (aH _) (fun b hl (hb:_<=b)=>⟨by omega,hl,fun e=>by have:=(hlow.o b e.symm).2;omega⟩) (fun _ _ _=>rfl) hcs);have HVC:=aB hvc;have HCL:=aB (show cs.length=1 from hcl);have HCO:=aB hco;have hlt1:=HP.o _ _ hr;have HG:=aB (HST.o.2 _ _ hr);clear hr hcs hvc hcl hco;go_wp2_with (first |(refine d8l (vs:=cs) rfl (t:=28) (y:= .tmp 7) rfl underlying28 HVC.o (by rw[HCL.o];exact HI1.o) bk ?_)|(at_builtin;refine wpList_append_rowZ rfl (.tmp 5) (.tmp 8) rfl HI2.o underlying28 rfl ae ae (W.heap.size+1) v0 acc.length (rowG acc) rfl (gY ((Bl.refl _).alloc _) HO1.o) w1.heap.size cs rfl (aN w1 _) HCL.o HCO.o aE am ?_))
  intro v' w6 hown6 hg6 hat;have HF6:=aB ((HF1.o.bl ((Bl.refl _).alloc _)).own hg6 (fun j e=>by have:=(hlow.o j e).1;omega));have HS6:=aB ((HS1.o.bl ((Bl.refl _).alloc _)).keep (hg6.block _ am (fun e=>by have:=(hlow.o _ e.symm).1;omega)) (hg6.block _ am (fun e=>by have:=(hlow.o _ e.symm).1;omega)));have HTR6:=aB (show ∀q∈acc++[(x,cs)],Shp.lies gRow (apartG (W.heap.size+1) w6 v') w6 q.1 q.2 from fun q hq=>by rcases iX.1 hq with hq|hq;exact lies_own (lies_bl (HTR1.o q hq) ((Bl.refl _).alloc _)) hg6 bz;obtain rfl:=gQ.1 hq;exact lies_own (lies_bl HZ.o ((Bl.refl _).alloc _)) hg6 bz);obtain⟨gn,cn,rfl⟩:=nG hown6;have HOW6:=aB (show w6.ownsRow (W.heap.size+1) 36 1 (.slice (some ⟨gn,0,none⟩) (acc.length+1) cn) (acc++[(x,cs)]).length (rowG (acc++[(x,cs)])) from by rw[bD,show rowG (acc++[(x,cs)])=rowG acc++cs from by simp[rowG]];exact hown6);have hz6:=HF6.o.size;have a0:=cK HF6.o.r;clear hown6 hg6 hat;cases ht:bH ts k1 [[44]] with
  |some k2=>
   have hk2:=kS HTK.o hlt1.2 ht;have HL6:=aB (HG.o.1 k2 ht hk2.1);have HT:=aB ht;clear ht;go_wp2_with fail;refine(jD HS6.o [[44]] HT.o _ 1 _ _ rfl rfl aa aa).mono ?_;rintro e w7 ⟨rfl,hg7,hs7⟩;have HG7:=aB hg7;have HS7:=aB hs7;clear hg7 hs7;go_wp2;go_roundw
   case rel=>exact⟨_,k2,acc++[(x,cs)],rfl,by rw[bD];simp;omega,HF6.o.next hbl HG7.o,HS7.o,pO HOW6.o HG7.o aE,aB (fun q hq=>lies_grown (HTR6.o q hq) HG7.o aE),by rw[kW];exact HL6.o⟩
   case measure=>have n1:=kY HS.o;have n2:=kY HS7.o;rw[n1,n2];omega
  |none=>
   have HE:=aB (HG.o.2 ht);have HT:=aB ht;clear ht;go_wp2_with fail;refine(kM HS6.o [[44]] HT.o _ 1 _ _ rfl rfl aa aa).mono ?_;rintro e w7 ⟨rfl,hg7,hs7⟩;have HG7:=aB hg7;have HS7:=aB hs7;clear hg7 hs7;go_wp2;go_ret;have hO7:=pO HOW6.o HG7.o aE;have hrows:=rows_ownG (F:=gRow) (l:=acc++[(x,cs)]) (p:=fun b=>W.heap.size<=b) hO7 (fun b hb _ _=>by omega) (fun q hq=>Shp.keep gRow (aH _) (fun b _ hb=>by have:=hb.1;omega) (fun _ _ _=>rfl) (lies_grown (HTR6.o q hq) HG7.o aE));rw[kW] at hrows;exact d2o.yes (HF6.o.next hbl HG7.o).grown HS7.o HE.o hrows
theorem zlistSet_any{W:World}{bs g cap k:Nat}{ts:List Tok}(h:iV W bs g cap ts k)(hT:lC ts):eg 248 #[RV bs,.func (.func 249) #[RV bs] #[]] W (d2o (RowsGV gSt W.heap.size) bs g cap ts W (d3o ts (setR ts) ts.length k [])):=by
 obtain⟨R,HR⟩:∃R,Hid (R=d3o ts (setR ts) ts.length k []):=⟨_,rfl⟩
 rw[<-HR.o];have HL0:=aB (show d8b ts (setR ts) R k [] from by rw[HR.o];exact d8b.start ts _ k);have HF0:=aB (FrY.start W bs);have HTK:=aB hT;have HS0:=aB (h.bl ((Bl.refl W).alloc (.cells #[.pointer (some ⟨bs,0,none⟩)] 122)));have hbl:=h.lt';have hgl:=h.gl;have HI1:=aB (show(prog.info? 63).map (fun i=>(i.zero.isSome,i.size))=some (true,9) from by kernel_rfl);have HI2:=aB (show(prog.info? 63).map (fun i=>(i.zero,i.size,i.bytes))=some (some (.agg #[S [],.int .i64 0,.int .i64 0,.int .i64 0,S [],S [],S [],.int .i64 0,.slice none 0 0]),9,120) from by kernel_rfl);clear h hT;go_enter func248,ntmps248;go_wp2_with fail;go_loopw [4] (fun o wr=>∃(v0:Value) (kk:Nat) (acc:List (_×List Value)),v0=o/\acc.length<=kk/\Hid (FrY W wr bs)/\Hid (iV wr bs g cap ts kk)/\Hid (wr.ownsRow (W.heap.size+1) 63 9 v0 acc.length (rowG acc))/\
  Hid (∀q∈acc,Shp.lies gSt (apartG (W.heap.size+1) wr v0) wr q.1 q.2)/\Hid (d8b ts (setR ts) R kk (acc.map (·.1)))) (fun _ wr=>ts.length-tH wr bs)
 case atStart=>exact⟨_,k,[],rfl,dL _,HF0.o,HS0.o,d2l _ _ _ _,aB (fun q hq=>by cases hq),HL0.o⟩
 case round=>
  clear HF0 HS0 HL0 HR;obtain⟨v0,kk,acc,rfl,hak,HF,HS,HO,HTR,HL⟩:=hrel;have hkk:=HS.o.lt;have hfew:=HS.o.few;have hzr:=HF.o.size;have p0:=cK HF.o.r;have HP:Hid (∀k1 x,setR ts kk= .good k1 x->kk<k1/\k1<ts.length):=fun k1 x h=>(setR_past HTK.o h)
  have HST:=aB (HL.o.step hkk fun k1 x h=>(HP.o k1 x h).1);go_wp2_with fail;refine(zset_any HS.o HTK.o).mono ?_;intro e w1 hp;obtain⟨hg1,k1,hs1,hcase⟩:=hp;have hz1:=hg1.4;have HF1:=aB (HF.o.next hbl hg1);have HS1:=aB hs1;have HO1:=aB (pO HO.o hg1 aE);have HTR1:=aB (show ∀q∈acc,Shp.lies gSt (apartG (W.heap.size+1) w1 v0) w1 q.1 q.2 from fun q hq=>lies_grown (HTR.o q hq) hg1 aE);have hlow:=aB HO.o.lt;clear p0 hg1 hs1;rcases hcase with⟨x,v,hr,hA,rfl⟩|⟨c,hc,hr,rfl⟩
  rotate_left
  ·have HB:=aB (HST.o.1 c hr);clear hr;go_wp2;exact⟨rfl,d2o.no HF1.o.grown HS1.o hc HB.o⟩
  obtain⟨cs,hvc,hcs⟩:=hA;have hcl:=Shp.len gSt hcs;have hco:=Shp.one gSt hcs;have HZ:=aB (show Shp.lies gSt (apartG (W.heap.size+1) w1 v0) w1 x cs from Shp.keep gSt (aH _) (fun b hl (hb:_<=b)=>⟨by omega,hl,fun e=>by have:=(hlow.o b e.symm).2;omega⟩) (fun _ _ _=>rfl) hcs);have HVC:=aB hvc;have HCL:=aB (show cs.length=9 from hcl);have HCO:=aB hco;have hlt1:=HP.o _ _ hr;have HG:=aB (HST.o.2 _ _ hr);clear hr hcs hvc hcl hco;go_wp2_with (first |(refine d8l (vs:=cs) rfl (t:=43) (y:= .tmp 7) rfl underlying43 HVC.o (by rw[HCL.o];exact HI1.o) bk ?_)|(at_builtin;refine wpList_append_rowZ rfl (.tmp 5) (.tmp 8) rfl HI2.o underlying43 rfl ae ae (W.heap.size+1) v0 acc.length (rowG acc) rfl (gY ((Bl.refl _).alloc _) HO1.o) w1.heap.size cs rfl (aN w1 _) HCL.o HCO.o aE am ?_))
  intro v' w6 hown6 hg6 hat;have HF6:=aB ((HF1.o.bl ((Bl.refl _).alloc _)).own hg6 (fun j e=>by have:=(hlow.o j e).1;omega));have HS6:=aB ((HS1.o.bl ((Bl.refl _).alloc _)).keep (hg6.block _ am (fun e=>by have:=(hlow.o _ e.symm).1;omega)) (hg6.block _ am (fun e=>by have:=(hlow.o _ e.symm).1;omega)));have HTR6:=aB (show ∀q∈acc++[(x,cs)],Shp.lies gSt (apartG (W.heap.size+1) w6 v') w6 q.1 q.2 from fun q hq=>by rcases iX.1 hq with hq|hq;exact lies_own (lies_bl (HTR1.o q hq) ((Bl.refl _).alloc _)) hg6 bz;obtain rfl:=gQ.1 hq;exact lies_own (lies_bl HZ.o ((Bl.refl _).alloc _)) hg6 bz);obtain⟨gn,cn,rfl⟩:=nG hown6;have HOW6:=aB (show w6.ownsRow (W.heap.size+1) 63 9 (.slice (some ⟨gn,0,none⟩) (acc.length+1) cn) (acc++[(x,cs)]).length (rowG (acc++[(x,cs)])) from by rw[bD,show rowG (acc++[(x,cs)])=rowG acc++cs from by simp[rowG]];exact hown6);have hz6:=HF6.o.size;have a0:=cK HF6.o.r;clear hown6 hg6 hat;cases ht:bH ts k1 [[44]] with
  |some k2=>
   have hk2:=kS HTK.o hlt1.2 ht;have HL6:=aB (HG.o.1 k2 ht hk2.1);have HT:=aB ht;clear ht;go_wp2_with fail;refine(jD HS6.o [[44]] HT.o _ 1 _ _ rfl rfl aa aa).mono ?_;rintro e w7 ⟨rfl,hg7,hs7⟩;have HG7:=aB hg7;have HS7:=aB hs7;clear hg7 hs7;go_wp2;go_roundw
   case rel=>exact⟨_,k2,acc++[(x,cs)],rfl,by rw[bD];simp;omega,HF6.o.next hbl HG7.o,HS7.o,pO HOW6.o HG7.o aE,aB (fun q hq=>lies_grown (HTR6.o q hq) HG7.o aE),by rw[kW];exact HL6.o⟩
   case measure=>have n1:=kY HS.o;have n2:=kY HS7.o;rw[n1,n2];omega
  |none=>
   have HE:=aB (HG.o.2 ht);have HT:=aB ht;clear ht;go_wp2_with fail;refine(kM HS6.o [[44]] HT.o _ 1 _ _ rfl rfl aa aa).mono ?_;rintro e w7 ⟨rfl,hg7,hs7⟩;have HG7:=aB hg7;have HS7:=aB hs7;clear hg7 hs7;go_wp2;go_ret;have hO7:=pO HOW6.o HG7.o aE;have hrows:=rows_ownG (F:=gSt) (l:=acc++[(x,cs)]) (p:=fun b=>W.heap.size<=b) hO7 (fun b hb _ _=>by omega) (fun q hq=>Shp.keep gSt (aH _) (fun b _ hb=>by have:=hb.1;omega) (fun _ _ _=>rfl) (lies_grown (HTR6.o q hq) HG7.o aE));rw[kW] at hrows;exact d2o.yes (HF6.o.next hbl HG7.o).grown HS7.o HE.o hrows
theorem zsets_any{W:World}{bs g cap k:Nat}{ts:List Tok}(h:iV W bs g cap ts k)(hT:lC ts):eg 194 #[RV bs] W (d2o (RowsGV gSt W.heap.size) bs g cap ts W (setsR ts k)):=by
 have HB0:=aB ((Bl.refl W).alloc (.cells #[.pointer (some ⟨bs,0,none⟩)] 122));have HF0:=aB (FrY.start W bs);have HTK:=aB hT;obtain⟨R,HR⟩:∃R,Hid (R=setsR ts k):=⟨_,rfl⟩
 rw[<-HR.o];clear hT;have H:=aB h;have hbl:=h.lt';have hgl:=h.gl;clear h;go_enter func194,ntmps194;go_wp2_with fail;refine(zneed_any (H.o.bl HB0.o) [wSet] _ 1 _ _ rfl rfl aa aa).mono ?_;intro e w1 hp;obtain⟨hg1,k1,hs1,hcase⟩:=hp;have HF1:=aB (HF0.o.next hbl hg1);have HS1:=aB hs1;clear hg1 hs1;rcases hcase with⟨_,v,hr1,rfl,rfl⟩|⟨c,hc,hr1,rfl⟩
 rotate_left
 ·have HE:=aB (HR.o.trans (d2u.bind_bad hr1));clear hr1;go_wp2;exact⟨rfl,d2o.no HF1.o.grown HS1.o hc HE.o⟩
 have HE1:=aB (HR.o.trans (d2u.bind_yes hr1));have a0:=cK HF1.o.r;have hz1:=HF1.o.size;clear hr1;go_wp2_with fail;refine(zlistSet_any HS1.o HTK.o).mono ?_;intro e w2 hp;obtain⟨hg2,k2,hs2,hcase⟩:=hp;have HF2:=aB (HF1.o.next hbl hg2);have HS2:=aB hs2;clear hg2 hs2 a0;rcases hcase with⟨l,v,hr2,hl,rfl⟩|⟨c,hc,hr2,rfl⟩
 ·have HE2:=aB (HE1.o.trans hr2);obtain⟨a,c,rfl,-⟩:=id hl;have HL:=aB hl;clear hr2 hl;go_wp2;go_ret;exact d2o.yes HF2.o.grown HS2.o HE2.o (HL.o.low fun b _ (hb:_<=b)=>by omega)
 ·have HE2:=aB (HE1.o.trans hr2);clear hr2;go_wp2;exact⟨rfl,d2o.no HF2.o.grown HS2.o hc HE2.o⟩
end
end Go.Proofs.YtohlomdapelgeaaGreatDoor
