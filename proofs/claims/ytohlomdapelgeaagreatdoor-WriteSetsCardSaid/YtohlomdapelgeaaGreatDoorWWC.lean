/- Texts beside the shared ones. -/
import Derived.Test.YtohlomdapelgeaaGreatDoorWX0
namespace Go.Proofs.YtohlomdapelgeaaGreatDoor
open _root_.Go.Proofs.Tryz
open Go.RowKit
open _root_.And renaming intro->bT
open _root_.Array renaming getElem?_eq_some_iff->aC
open _root_.Go.RowKit.Below renaming grown->iL
open _root_.Go.Lib renaming hid->aB
open _root_.List renaming append_assoc->iK,getElem_mem->dS,length_append->bD,length_map->mD,map_append->kW,mem_append->iX,take_length->gJ
open _root_.Nat renaming le_refl->aH,le_trans->jH,zero_le->dL
set_option maxRecDepth 100000
set_option maxHeartbeats 4000000
section
theorem keep_b{w w':World}{k:Nat}{ob:Obj}(h:w.heap[k]?=some ob)(hb:Bl w w'):w'.heap[k]?=some ob:=(hb.block k (aC.1 h).1).trans h
def setsW(w:Wr):List St:=w.sets++w.whens.flatMap (·.sets)
theorem OwnSt.one{p:Nat->Prop}{base:Nat}{w:World}{v:Value}{l:List St}(h:OwnSt p base w v l):v.oneCell'=true:=by
 obtain⟨ms,-,-,ho⟩:=h.own;rcases ho.2 with⟨rfl,-⟩|⟨_,_,_,rfl,-⟩<;>rfl
theorem OwnSt.shape{p:Nat->Prop}{base:Nat}{w:World}{v:Value}{l:List St}(h:OwnSt p base w v l):∃a n c,v= .slice a n c:=by
 obtain⟨ms,-,-,ho⟩:=h.own;rcases ho.2 with⟨rfl,-⟩|⟨_,_,_,rfl,-⟩<;>exact⟨_,_,_,rfl⟩
theorem OwnSt.bl{p:Nat->Prop}{base:Nat}{A B:World}{v:Value}{l:List St}(h:OwnSt p base A v l)(hb:Bl A B):OwnSt p base B v l:=by
 obtain⟨ms,h1,h2,h3⟩:=h.own;exact⟨⟨ms,h1,fun q hq=>gSt.keep hb.size (fun _ _ h=>h) (fun b _ hl=>hb.block b hl) (h2 q hq),gY hb h3⟩⟩
theorem OwnSt.own_lt{p:Nat->Prop}{base:Nat}{w:World}{v:Value}{l:List St}(h:OwnSt p base w v l){b:Nat}(e:v.ownBlock=some b):base<=b/\b<w.heap.size:=by
 obtain⟨ms,-,-,ho⟩:=h.own;have:=ho.lt b e;exact this
section
variable {w:Wr} {p:Nat->Prop} {s:SlW}
structure SetsJ(W:World)(w:Wr)(s:SlW)(base:Nat)(v:Value)(l:List St)(A:World):Prop where
 b:Bl W A
 x:A.heap[W.heap.size]?=some (.cells (cWr w s).toArray 46 (0,0))
 o:OwnSt (fun b=>b<W.heap.size) base A v l
 h:W.heap.size<base
 i:base<=A.heap.size
theorem SetsJ.bl{W:World}{base:Nat}{v:Value}{l:List St}{A B:World}(h:SetsJ W w s base v l A)(hb:Bl A B):SetsJ W w s base v l B:=
 ⟨h.b.call hb,keep_b h.x hb,h.o.bl hb,h.h,jH h.i hb.size⟩
theorem SetsJ.app{W:World}{base:Nat}{v:Value}{l:List St}{A:World}(h:SetsJ W w s base v l A){ms:List (St×List Value)}(hm:ms.map (·.1)=l)(hms:∀q∈ms,gSt.lies (fun b=>b<W.heap.size) A q.1 q.2)
  {m:List St} {ms2:List (St×List Value)} {v':Value} {B:World} (hm2:ms2.map (·.1)=m) (hms2:∀q∈ms2,gSt.lies (fun b=>b<W.heap.size) A q.1 q.2) (hown:B.ownsRow base 63 9 v' (ms++ms2).length (rowG (ms++ms2))) (hg:A.grownBy B v.ownBlock):SetsJ W w s base v' (l++m) B:=by
 have hk:∀b,b<=W.heap.size->some b≠v.ownBlock:=fun b hb e=>by
  have:=(h.o.own_lt e.symm).1;have:=h.h;omega
 refine⟨iL h.b hg h.b.size (fun k e=>?_),(hg.block _ (lt_of_heap h.x) (hk _ (aH _))).trans h.x,⟨ms++ms2,by rw[kW,hm,hm2],fun q hq=>?_,hown⟩,h.h,jH h.i hg.size⟩
 ·have:=(h.o.own_lt e).1;have:=h.h;omega
 ·exact gSt.keep hg.size (fun _ _ h=>h) (fun b hb hl=>hg.block b hl (hk b (Nat.le_of_lt hb))) ((iX.1 hq).elim (hms q) (hms2 q))
theorem SetsJ.but{W:World}{base g:Nat}{v:Value}{l:List St}{A B:World}(h:SetsJ W w s base v l A)(hB:But g A B)(hk:W.heap.size<g)(hn:v.ownBlock≠some g):SetsJ W w s base v l B:=by
 refine⟨h.b.but hB (Nat.le_of_lt hk),(hB.same _ aE).trans h.x,?_,h.h,jH h.i hB.grown.size⟩;obtain⟨ms,h1,h2,h3⟩:=h.o.own;refine⟨⟨ms,h1,fun q hq=>gSt.keep hB.grown.size (fun _ _ h=>h) (fun b hb _=>hB.same b (by have:b<W.heap.size:=hb;omega)) (h2 q hq),h3.1,?_⟩⟩;rcases h3.2 with h|⟨b,cap,cur,rfl,e1,e2,e3⟩
 ·exact .inl h
 ·exact .inr ⟨b,cap,cur,rfl,e1,(hB.same b (fun e=>hn (by rw[<-e];rfl))).trans e2,e3⟩
structure SetsI(W:World)(w:Wr)(s:SlW)(g base:Nat)(v:Value)(l:List St)(A:World):Prop where
 t:SetsJ W w s base v l A
 c:A.heap[g]?=some (.cells #[v] 43 (0,0))
 n:v.ownBlock≠some g
 k:W.heap.size<g
theorem SetsI.bl{W:World}{g base:Nat}{v:Value}{l:List St}{A B:World}(h:SetsI W w s g base v l A)(hb:Bl A B):SetsI W w s g base v l B:=
 ⟨h.t.bl hb,keep_b h.c hb,h.n,h.k⟩
theorem whens_take{w:Wr}{j:Nat}(hj:j<w.whens.length):w.sets++(w.whens.take (j+1)).flatMap (·.sets)=(w.sets++(w.whens.take j).flatMap (·.sets))++w.whens[j].sets:=by
 rw[List.take_succ_eq_append_getElem hj,List.flatMap_append,iK];simp
theorem wsets_len(hls:w.sets.length<=1000)(hws:∀x∈w.whens,x.sets.length<=1000):Hid (∀j,j<=w.whens.length->(w.sets++(w.whens.take j).flatMap (·.sets)).length<=1000+j * 1000):=fun j hj=>by
 induction j with
 |zero=>simp;omega
 |succ j ih=>
  rw[whens_take hj,bD];have h1:=ih aE;have h2:=hws _ (dS (show j<w.whens.length from hj));omega
theorem zSets_any(hls:w.sets.length<=1000)(hlw:w.whens.length<=100)(hws:∀x∈w.whens,x.sets.length<=1000)(W:World)(hp:PartsW p W w s):
  Calls Tryz.prog 15 #[.agg (cWr w s).toArray] W fun e w'=>∃g base v,e= .returned (.func (.func 45) #[] #[.pointer (some ⟨g,0,none⟩)])/\SetsI W w s g base v (setsW w) w':=by
 have HCL:Hid (∀A,Bl W A->Calls Tryz.prog 44 #[s.sets] A fun e w'=>∃v,e= .returned v/\OwnSt (fun b=>b<W.heap.size) A.heap.size w' v w.sets/\Bl A w'):=fun A hb=>cloneSet_any aE A ((hp.sets.low fun b hb _=>hb).bl hb);obtain⟨na,nc,en,hW⟩:=hp.whens.shape;have HWN:=aB hW;have HLS:=aB hws;have HLW:=aB hlw;have HEN:=aB en;have HLT:=wsets_len hls hws;clear hp hW hws en;go_enter func15,ntmps15;go_wp2_with (refine wpList_boxO rfl 46 (.tmp 0) rfl (cWr w s) rfl ?_)
 intro w0 hb0 hX0;have HB0:=aB hb0;have HX0:=aB hX0;have d32:=cell_of (i:=32) hX0 rfl;clear hb0 hX0;go_wp2_with fail;refine(HCL.o _ HB0.o).mono ?_;rintro e w1 ⟨v1,rfl,hown,hb1⟩;obtain⟨a1,n1,c1,rfl⟩:=hown.shape;have HO1:=aB hown;have HB1:=aB (HB0.o.call hb1);have HX1:=aB ((hb1.block _ (lt_of_heap HX0.o)).trans HX0.o);have HA1:=aB ((Bl.refl w1).alloc (.cells #[.slice none 0 0] 43));have HZ1:=aB (bT (lt_of_heap HX0.o) hb1.size);clear hown hb1 d32 HX0;go_wp2_with (refine bA (g:=w1.heap.size) (i:=0) rfl rfl rfl rfl [.slice a1 n1 c1] (aN w1 _) rfl rfl slSetInfo rfl ?_)
 intro w2 hB2 hX2;have hb2:Bl w1 w2:=HA1.o.but hB2 (aH _);have hz1:=lt_of_heap HX1.o;have HI2:=aB (show SetsI W w s w1.heap.size w0.heap.size (.slice a1 n1 c1) (w.sets++(w.whens.take 0).flatMap (·.sets)) w2 from
  ⟨⟨HB1.o.call hb2,(hb2.block _ hz1).trans HX1.o,by rw[List.take_zero,List.flatMap_nil,List.append_nil];exact HO1.o.bl hb2,HZ1.o.1,jH HZ1.o.2 hb2.size⟩,hX2,fun e=>by
   have:=(HO1.o.own_lt e).2;omega,hz1⟩)
 clear hB2 hX2 hb2 HA1 HO1 HX1 HB1 HB0 HZ1 hz1;have d51:=cell_of (i:=51) HI2.o.t.x rfl;rw[HEN.o] at d51;obtain⟨g,hg⟩:∃g,w1.heap.size=g:=⟨_,rfl⟩
 rw[hg] at HI2⊢;clear hg;go_wp2_with fail;go_loopw [12] (fun i wr=>∃(j:Nat) (base:Nat) (v:Value),j<=w.whens.length/\i= .int .i64 (j:Int)/\Hid (SetsI W w s g base v (w.sets++(w.whens.take j).flatMap (·.sets)) wr)) (fun i _=>w.whens.length-(intOf i).toNat)
 case atStart=>exact⟨0,_,_,dL _,rfl,HI2⟩
 case round=>
  obtain⟨j,base,v,hj,rfl,HI⟩:=hrel;by_cases hlt:j<w.whens.length
  ·obtain⟨b,off,cs,rfl,-,hbl,hcs,hlies⟩:=HWN.o j hlt;obtain⟨s1,ss,sc,sv,rfl,hr1,hr2,hr3,hr4⟩:=hlies;obtain⟨xa,xc,rfl,-⟩:=id hr2.shape;obtain⟨ya,yc,rfl⟩:=id hr1.shape;obtain⟨za,zc,rfl,-⟩:=id hr3.shape;obtain⟨va,vc,rfl⟩:=id hr4.shape;have HCS:=aB (hcs.keep (HI.o.t.b.block b hbl)).range;have HRS:=aB ((hr2.low (q:=fun b=>b<W.heap.size) fun b hb _=>hb).bl HI.o.t.b);have HTK:=aB (whens_take hlt);have HLJ:=aB (bT (HLT.o j aE) (HLS.o _ (dS hlt)));have hlt':(j:Int)<(w.whens.length:Int):=aE;clear hcs hr1 hr2 hr3 hr4;generalize w.whens[j]=y at *;obtain⟨av,an,ac,rfl⟩:=HI.o.t.o.shape;have t3:=cK HI.o.c;go_wp2_with (first
    |(refine wpList_load_mid rfl 87 (.tmp 14) rfl b (off+j * 13) rfl (cells13 y (.slice ya y.cond.args.length yc) (.slice xa y.sets.length xc) (.slice za y.cols.length zc) (.slice va y.vals.length vc)) _ HCS.o Tryz.underlying87 rfl whenInfo ?_)
    |(refine bA (g:=wr.heap.size) (i:=0) rfl rfl rfl rfl (cells13 y (.slice ya y.cond.args.length yc) (.slice xa y.sets.length xc) (.slice za y.cols.length zc) (.slice va y.vals.length vc)) (aN wr _) rfl rfl whenInfo rfl ?_))
   intro w3 hB3 hX3;have hb3:Bl wr w3:=((Bl.refl wr).alloc _).but hB3 (aH _);have HI3:=aB (HI.o.bl hb3);have HR3:=aB (HRS.o.bl hb3);have t30:=cK HI3.o.c;have d10:=cell_of (i:=10) hX3 rfl;obtain⟨ms,hm,hms,ho⟩:=HI3.o.t.o.own;have HOW:=aB ho;have HFW:Hid (ms.length+y.sets.length<=1000000):=by
    have h1:=HLJ.o.1;have h2:=HLJ.o.2;have h3:=HLW.o;rw[<-hm,mD] at h1;show _<=_;omega
   have HMS:=aB (bT hm hms);have hj1:j+1<=w.whens.length:=hlt;clear hB3 hX3 hb3 HI HRS hm hms ho HLJ HCS hlt' t3;go_wp2_with (at_builtin;refine wpList_append_rowsG rfl (.tmp 16) (.tmp 18) rfl (F:=gSt) setFull Tryz.underlying43 rfl ae ae base _ ms rfl HOW.o rfl HR3.o HFW.o HI3.o.t.i ?_)
   intro ms2 v' w4 hm2 hms2 hown hg hat;have HJ4:=aB (HI3.o.t.app HMS.o.1 HMS.o.2 hm2 (fun q hq=>hms2 q.1 q.2 hq) (by rw[bD];exact hown) hg);have HC4:=aB ((hg.block g (lt_of_heap HI3.o.c) (fun e=>HI3.o.n e.symm)).trans HI3.o.c);have HN4:Hid (v'.ownBlock≠some g):=by
    have h:=lt_of_heap HI3.o.c;rcases hat with e|e
    ·rw[e];exact HI3.o.n
    ·rw[e];intro e;injection e with e;omega
   obtain⟨a4,n4,c4,rfl⟩:=HJ4.o.o.shape;clear hm2 hms2 hown hg hat HOW HFW HMS d10;go_wp2_with (refine bA (g:=g) (i:=0) rfl rfl rfl rfl [.slice a4 n4 c4] HC4.o rfl rfl slSetInfo rfl ?_)
   intro w5 hB5 hX5;have HI5:=aB (show SetsI W w s g base (.slice a4 n4 c4) (w.sets++(w.whens.take (j+1)).flatMap (·.sets)) w5 from by
    rw[HTK.o];exact⟨HJ4.o.but hB5 HI3.o.k HN4.o,hX5,HN4.o,HI3.o.k⟩)
   clear hB5 hX5 HJ4 HC4 HN4 HI3 HR3 HTK;go_wp2;go_roundw
   case rel=>exact⟨j+1,base,_,by omega,by go_num,HI5⟩
   case measure=>simp[intOf];omega
  ·obtain rfl:j=w.whens.length:=by omega
   have HIE:=aB (show SetsI W w s g base v (setsW w) wr from by have h:=HI.o;rw[gJ] at h;exact h);have hge:¬((w.whens.length:Int)<(w.whens.length:Int)):=aE;clear HI;go_wp2;go_ret;exact⟨g,rfl,_,_,HIE.o⟩
end
end
end Go.Proofs.YtohlomdapelgeaaGreatDoor
