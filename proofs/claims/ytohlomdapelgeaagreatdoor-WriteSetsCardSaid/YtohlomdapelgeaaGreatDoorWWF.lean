/- Texts beside the shared ones. -/
import Derived.Test.YtohlomdapelgeaaGreatDoorWX0
import Derived.Test.YtohlomdapelgeaaGreatDoorWWC
namespace Go.Proofs.YtohlomdapelgeaaGreatDoor
open _root_.Go.Proofs.Tryz
open Go.RowKit
open _root_.Go.Act renaming put->aK
open _root_.And renaming intro->bT
open _root_.Go.Lib renaming hid->aB
open _root_.List renaming getElem_mem->dS,length_append->bD,length_map->mD,nil_append->cB,setIfInBounds_toArray->aA,set_cons_succ->aF,set_cons_zero->aD,take_length->gJ
open _root_.Nat renaming le_refl->aH,zero_le->dL
open NoPanic renaming normal->bF
set_option maxRecDepth 100000
set_option maxHeartbeats 4000000
section
section
variable {w:Wr} {p:Nat->Prop} {s:SlW}
theorem vSets_any(hls:w.sets.length<=1000)(hlw:w.whens.length<=100)(hws:∀x∈w.whens,x.sets.length<=1000)(W:World)(hp:PartsW p W w s):
  Calls Tryz.prog 14 #[.agg (cWr w s).toArray] W fun e w'=>∃base v,e= .returned v/\SetsJ W w s base v (setsW w) w':=by
 have HRS0:=aB (hp.sets.low (q:=fun b=>b<W.heap.size) fun b hb _=>hb);obtain⟨sa,sc0,es,-⟩:=id hp.sets.shape;have HES:=aB es;obtain⟨na,nc,en,hW⟩:=hp.whens.shape;have HWN:=aB hW;have HLS:=aB hws;have HLW:=aB hlw;have HEN:=aB en;have HLT:=wsets_len hls hws;clear hp hW hws en es;go_enter func14,ntmps14;go_wp2_with (refine wpList_boxO rfl 46 (.tmp 0) rfl (cWr w s) rfl ?_)
 intro w0 hb0 hX0;have HB0:=aB hb0;have HZ0:=aB (lt_of_heap hX0);have HO:=aB (own_St w0);have HB1:=aB ((Bl.refl w0).alloc (.cells #[] 63));have HX1:=aB (keep_b hX0 HB1.o);have HR1:=aB ((HRS0.o.bl hb0).bl HB1.o);have d32:=cell_of (i:=32) HX1.o rfl;rw[HES.o] at d32 HR1;have HJ1:=aB (show SetsJ W w s w0.heap.size (.slice (some ⟨w0.heap.size,0,none⟩) 0 0) [] (w0.alloc (.cells #[] 63)) from
  ⟨HB0.o.call HB1.o,HX1.o,⟨[],rfl,fun q hq=>(by cases hq),HO.o⟩,HZ0.o,HB1.o.size⟩)
 have hfew:([]:List (St×List Value)).length+w.sets.length<=1000000:=ak;clear hb0 hX0;go_wp2_with (at_builtin;refine wpList_append_rowsG rfl (.tmp 5) (.tmp 7) rfl (F:=gSt) setFull Tryz.underlying43 rfl ae ae w0.heap.size _ [] rfl HO.o rfl HR1.o hfew HB1.o.size ?_)
 intro ms2 v' w1 hm2 hms2 hown hg hat;have HJ2:=aB (show SetsJ W w s w0.heap.size v' (w.sets++(w.whens.take 0).flatMap (·.sets)) w1 from by
  have h:=HJ1.o.app (ms:=[]) rfl (fun q hq=>(by cases hq)) hm2 (fun q hq=>hms2 q.1 q.2 hq) (by rw[cB];exact hown) hg;rw[cB] at h;rw[List.take_zero,List.flatMap_nil,List.append_nil];exact h)
 clear hm2 hms2 hown hg hat HJ1 HR1 HX1 HB1 HO HB0 HRS0 HES d32 hfew;obtain⟨g0,hg0⟩:∃g,w0.heap.size=g:=⟨_,rfl⟩
 rw[hg0] at HJ2 HZ0;clear hg0;obtain⟨a1,n1,c1,rfl⟩:=HJ2.o.o.shape;go_wp2_with fail;go_loopw [3,4] (fun o i wr=>∃(j:Nat) (base:Nat),j<=w.whens.length/\i= .int .i64 (j:Int)/\Hid (SetsJ W w s base o (w.sets++(w.whens.take j).flatMap (·.sets)) wr)) (fun _ i _=>w.whens.length-(intOf i).toNat)
 case atStart=>exact⟨0,_,dL _,rfl,HJ2⟩
 case round=>
  obtain⟨j,base,hj,rfl,HI⟩:=hrel;obtain⟨av,an,ac,rfl⟩:=HI.o.o.shape;have d51:=cell_of (i:=51) HI.o.x rfl;rw[HEN.o] at d51;by_cases hlt:j<w.whens.length
  ·obtain⟨b,off,cs,rfl,-,hbl,hcs,hlies⟩:=HWN.o j hlt;obtain⟨s1,ss,sc,sv,rfl,hr1,hr2,hr3,hr4⟩:=hlies;obtain⟨xa,xc,rfl,-⟩:=id hr2.shape;have d10:wr.cell? ⟨b,off+j * 13+10,none⟩=some (.slice xa w.whens[j].sets.length xc):=(hcs.keep (HI.o.b.block b hbl)) 10 _ rfl;have HRS:=aB ((hr2.low (q:=fun b=>b<W.heap.size) fun b hb _=>hb).bl HI.o.b);have HTK:=aB (whens_take hlt);obtain⟨ms,hm,hms,ho⟩:=HI.o.o.own;have HOW:=aB ho;have HFW:Hid (ms.length+w.whens[j].sets.length<=1000000):=by
    have h1:=HLT.o j aE;have h2:=HLS.o _ (dS hlt);have h3:=HLW.o;rw[<-hm,mD] at h1;show _<=_;omega
   have HMS:=aB (bT hm hms);have hlt':(j:Int)<(w.whens.length:Int):=aE;clear hcs hr1 hr2 hr3 hr4 hm hms ho;generalize w.whens[j]=y at *;go_wp2_with (at_builtin;refine wpList_append_rowsG rfl (.tmp 16) (.tmp 22) rfl (F:=gSt) setFull Tryz.underlying43 rfl ae ae base _ ms rfl HOW.o rfl HRS.o HFW.o HI.o.i ?_)
   intro ms2 v' w4 hm2 hms2 hown hg hat;have HJ4:=aB (show SetsJ W w s base v' (w.sets++(w.whens.take (j+1)).flatMap (·.sets)) w4 from by
    rw[HTK.o];exact HI.o.app HMS.o.1 HMS.o.2 hm2 (fun q hq=>hms2 q.1 q.2 hq) (by rw[bD];exact hown) hg)
   obtain⟨a4,n4,c4,rfl⟩:=HJ4.o.o.shape;have hj1:j+1<=w.whens.length:=hlt;clear hm2 hms2 hown hg hat HOW HFW HMS d10 d51 HI HRS HTK hlt';go_wp2;go_roundw
   case rel=>exact⟨j+1,base,by omega,by go_num,HJ4⟩
   case measure=>simp[intOf];omega
  ·obtain rfl:j=w.whens.length:=by omega
   have HIE:=aB (show SetsJ W w s base (.slice av an ac) (setsW w) wr from by have h:=HI.o;rw[gJ] at h;exact h);have hge:¬((w.whens.length:Int)<(w.whens.length:Int)):=aE;clear HI;go_wp2;go_ret;exact⟨_,_,rfl,HIE.o⟩
end
theorem range1{B:World}{b o:Nat}{v:Value}{cs:List Value}(h:d2k B b o (v::cs)):B.rangeAt b (o+1) cs:=fun i u hu=>by
 have:=h (i+1) u (by simpa using hu);rw[show o+1+i=o+(i+1) by omega];exact this
theorem vSame_one{W:World}{nm:List UInt8}{x:Ex}(hp:fC x<=1000000){ba oa ca bb ob cb:Nat}{s1 s2:Value}(h1:d2k W ba oa (S nm::qD x s1))(h2:d2k W bb ob (S nm::qD x s2))(r1:gU W s1 x.args)(r2:gU W s2 x.args):
  Calls Tryz.prog 16 #[.slice (some ⟨ba,oa,none⟩) 1 ca,.slice (some ⟨bb,ob,none⟩) 1 cb] W fun e w'=>e= .returned (.bool true)/\Bl W w':=by
 have HSM:Hid (∀B,Bl W B->Calls Tryz.prog 32 #[.agg (qD x s1).toArray,.agg (qD x s2).toArray] B fun e w'=>e= .returned (.bool true)/\Bl B w'):=fun B hb=>by
  have h:=a1o _ x x (aH _) hp B (.agg (qD x s1).toArray) (.agg (qD x s2).toArray) ⟨_,rfl,r1.bl hb⟩ ⟨_,rfl,r2.bl hb⟩;rw[zZ] at h;exact h
 have HC:=aB (bT h1 h2);clear h1 h2 r1 r2 hp;go_enter func16,ntmps16;go_wp2_with fail;go_loopw [5] (fun i wr=>∃j:Nat,j<=1/\i= .int .i64 (j:Int)/\Hid (Bl W wr)) (fun i _=>1-(intOf i).toNat)
 case atStart=>exact⟨0,by omega,rfl,Bl.refl W⟩
 case round=>
  obtain⟨j,hj,rfl,HB⟩:=hrel;obtain rfl|rfl:j=0\/j=1:=by omega
  ·have HC1:=aB (show d2k wr ba oa (S nm::qD x s1)/\d2k wr bb ob (S nm::qD x s2) from
    ⟨HC.o.1.keep (HB.o.block ba (HC.o.1.lt (Nat.succ_pos _))),HC.o.2.keep (HB.o.block bb (HC.o.2.lt (Nat.succ_pos _)))⟩)
   have hne:(nm != nm)=false:=aa;go_wp2_with fail;refine wp_region_noPanic (bM (fun B=>d2k B ba oa (S nm::qD x s1)/\d2k B bb ob (S nm::qD x s2)) ((.take 0 (.take 1 (.take 2 (.take 3 (.take 4 (.take 5 (.take 6 (.take 7 (.take 8 (.take 9 (.take 10 (.take 11 (.take 12 (.take 13 (.take 14 (.take 15 (.take 16 (.take 17 (.take 18 (.take 19 (.take 20 (.take 21 (.one 22 (.take 23 (.take 24 .done)))))))))))))))))))))))))) af af af (fun _ _ _ _ _ h=>h) (⟨HC1.o.1.keep (((Bl.refl _).drew).block _ (HC1.o.1.lt (Nat.succ_pos _))),HC1.o.2.keep (((Bl.refl _).drew).block _ (HC1.o.2.lt (Nat.succ_pos _)))⟩) ?_);intro wd HWD hY;iterate 16 (refine aI rfl ab (by intro w hSw;(try dsimp only at hSw);have a0:=d2k.cell0 hSw.1 rfl;have b0:=d2k.cell0 hSw.2 rfl;go_simp;(try(first |with_reducible rfl|rfl))) ?_;(try simp only[aK,aA,aD,aF]))
   refine aI rfl ab (fun wS hSw=>run_load_midO rfl rfl (range1 hSw.1) Tryz.underlying38 rfl d4b) ?_;(try simp only[aK,aA,aD,aF])
   iterate 4 (refine aI rfl ab (by intro w hSw;(try dsimp only at hSw);have a0:=d2k.cell0 hSw.1 rfl;have b0:=d2k.cell0 hSw.2 rfl;go_simp;(try(first |with_reducible rfl|rfl))) ?_;(try simp only[aK,aA,aD,aF]))
   refine aI rfl ab (fun wS hSw=>run_load_midO rfl rfl (range1 hSw.2) Tryz.underlying38 rfl d4b) ?_;(try simp only[aK,aA,aD,aF])
   refine aL rfl (fun K hK=>?_);go_simp;(refine(HSM.o _ (HB.o.call HWD.o)).mono ?_;rintro e z22 ⟨rfl,hb22⟩;have HB2:=aB ((HB.o.call HWD.o).call hb22));go_wp2_with fail;refine hK.o _ _ ((by first |exact hY|exact⟨hY.1.keep (hb22.block _ (hY.1.lt (Nat.succ_pos _))),hY.2.keep (hb22.block _ (hY.2.lt (Nat.succ_pos _)))⟩)) ?_;clear hY hK K;intro hY;iterate 2 (refine aI rfl ab (by intro w hSw;(try dsimp only at hSw);have a0:=d2k.cell0 hSw.1 rfl;have b0:=d2k.cell0 hSw.2 rfl;go_simp;(try(first |with_reducible rfl|rfl))) ?_;(try simp only[aK,aA,aD,aF]))
   refine fO (bF ?_);clear hY hb22;go_wp2;go_roundw
   case rel=>exact⟨1,by omega,by go_num,HB2.o⟩
   case measure=>simp[intOf]
  ·go_wp2;go_ret;exact⟨rfl,HB.o⟩
end
end Go.Proofs.YtohlomdapelgeaaGreatDoor
