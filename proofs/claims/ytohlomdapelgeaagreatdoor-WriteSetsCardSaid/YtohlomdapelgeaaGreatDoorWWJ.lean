/- Texts beside the shared ones. -/
import Derived.Test.YtohlomdapelgeaaGreatDoorWX0
import Derived.Test.YtohlomdapelgeaaGreatDoorWWI
namespace Go.Proofs.YtohlomdapelgeaaGreatDoor
open _root_.Go.Proofs.Tryz
open Go.RowKit Go.Shelf
open _root_.Go.Act renaming put->aK
open _root_.And renaming intro->bT
open _root_.Array renaming getElem?_eq_some_iff->aC,replicate_succ->eX,replicate_zero->eU
open _root_.Go.Lib renaming frozen_of_heap->aJ,hid->aB
open _root_.List renaming append_toArray->fD,cons_append->bE,getElem?_eq_getElem->aP,getElem_mem->dS,length_cons->aX,length_nil->bL,nil_append->cB,push_toArray->gH,range->iU,setIfInBounds_toArray->aA,set_cons_succ->aF,set_cons_zero->aD,size_toArray->gG,take_length->gJ
open _root_.Nat renaming le_refl->aH
open _root_.Go.Oper renaming semAt_some->nC
open _root_.Option renaming getD_some->oQ
set_option maxRecDepth 100000
set_option maxHeartbeats 16000000
section
attribute [local go_sem] nC
theorem wsets_all{w:Wr}{s:SlW}(hL:LenW w)(W:World)(hG:nD W)(hp:PartsW (fun _=>True) W w s)(many:Int)(hm0: -9223372036854775808<=many)(hm1:many<=9223372036854775807):Calls Tryz.prog 5 #[.agg (cWr w s).toArray,.int .i64 many] W (Yes W):=by
 have HFW:Hid (∀A,Bl W A->Calls Tryz.prog 11 #[.agg (cWr w s).toArray] A (FewP A w)):=fun A hb=>few18_any hL A (hp.bl hb) fun B hb2=>⟨_,_,_,_,_,_,rfl,(hp.bl (hb.call hb2)).query⟩
 have HWO:Hid (∀A,Bl W A->Calls Tryz.prog 6 #[] A fun e w'=>e= .returned (.bool true)/\Bl A w'):=fun A hb=>works18_any A (hG.bl hb);have HP:=aB hp;clear hp hL hG;refine(callsIn_wide (n:=6)).1 ?_;refine callsIn_of_wp_marks func5 rfl trivial ?_ rfl;simp only[ntmps5,gG,aX,bL,Nat.reduceAdd,Nat.reduceSub,eX,eU,gH,fD,cB,bE]
 gi_wp2_with (refine wpListIn_boxO rfl 46 (.tmp 0) rfl (cWr w s) rfl ?_)
 intro w0 hb0 hX0;have HF0:=aB (WsF.start w s many W hb0 hX0);clear hb0 hX0;obtain⟨bm,hbm⟩:∃bm,w0.heap.size=bm:=⟨_,rfl⟩
 gi_upto_region 1 with fail
 obtain⟨u0,hu⟩:∃u,(w0.alloc (.cells #[.int .i64 many] 3)).alloc (.cells #[.bool false] 4)=u:=⟨_,rfl⟩
 change Code.wpIn _ _ _ _ _ _ ((w0.alloc (.cells #[.int .i64 many] 3)).alloc (.cells #[.bool false] 4));rw[hu] at HF0⊢
 try rw[hbm] at HF0
 try rw[hbm]
 clear hu hbm
 gi_wp2_with (refine wpListIn_load_mid rfl 46 (.tmp 2) rfl W.heap.size 0 rfl (cWr w s) _ (range_of HF0.o.x rfl) Tryz.underlying46 rfl wrInfoZ ?_)
 refine⟨trivial,?_⟩;refine(callsIn_wide.2 (HFW.o _ HF0.o.bl)).mono ?_;rintro e w1 ⟨⟨b,rfl,hfew⟩,hb1⟩;have HF1:=aB (HF0.o.call hb1);clear hb1 HF0;cases b
 ·clear hfew
  gi_wp2_with fail
  refine⟨trivial,?_⟩;refine(callsIn_wide.2 (HWO.o _ HF1.o.bl)).mono ?_;rintro e w9 ⟨rfl,hb9⟩;have hE9:=keep_b HF1.o.r hb9;have c0:=cK hE9;have z0:=aJ hE9 0;have HB9:=aB (HF1.o.bl.call hb9);have hlt:=HF1.o.lt
  gi_wp2
  have q0:=cK (x:= .bool true) (lN hE9 0 (.bool true));exact⟨.bool true,by simp[results,results5,go_sem,q0],rfl,HB9.o.set (p:=⟨bm+1,0,none⟩) (by show W.heap.size<=bm+1;omega) _⟩
 have hF:=hfew rfl;have hls:w.sets.length<=40:=(few_len hF.sets).1;have hlw:=hF.whens;have hws:∀x∈w.whens,x.sets.length<=40:=fun x hx=>(few_len (hF.each x hx)).1;have HPX:=aB (sets_small hF);have HLS:=aB (bT hls (bT hlw hws));clear hfew hF hls hlw hws HFW
 gi_wp2_with (refine wpListIn_load_mid rfl 46 (.tmp 2) rfl W.heap.size 0 rfl (cWr w s) _ (range_of HF1.o.x rfl) Tryz.underlying46 rfl wrInfoZ ?_)
 refine⟨trivial,?_⟩;refine(callsIn_wide.2 (vSets_any (by have:=HLS.o.1;omega) (by have:=HLS.o.2.1;omega) (fun x hx=>by have:=HLS.o.2.2 x hx;omega) w1 (HP.o.bl HF1.o.bl))).mono ?_;rintro e w2 ⟨base1,v1,rfl,hJ⟩;have hJ1:=hJ;obtain⟨la,lc,rfl,hlc,hel⟩:=hJ.o.each;have hb2':Bl w1 (w2.alloc (.cells #[.slice la (setsW w).length lc] 43)):=hJ.b.alloc _;have HF2:=aB (HF1.o.call hb2');have HL2:=aB (Boxed.new w2 43 (.slice la (setsW w).length lc));have HE2:=aB (fun j (hj:j<(setsW w).length)=>by
  obtain⟨b1,s1,e,h1,h2⟩:=hel j hj;exact(⟨b1,s1,e,h1.bl ((Bl.refl w2).alloc (.cells #[.slice la (setsW w).length lc] 43)),h2.bl ((Bl.refl w2).alloc (.cells #[.slice la (setsW w).length lc] 43))⟩:∃b1 s1,la=some ⟨b1,0,none⟩/\d2k (w2.alloc (.cells #[.slice la (setsW w).length lc] 43)) b1 (j * 9) (S (setsW w)[j].n::qD (setsW w)[j].x s1)/\gU (w2.alloc (.cells #[.slice la (setsW w).length lc] 43)) s1 (setsW w)[j].x.args))
 have HLC:=aB hlc;clear hJ hJ1 hb2' hel hlc HF1;obtain⟨lb,hlb⟩:∃lb,w2.heap.size=lb:=⟨_,rfl⟩
 gi_upto_region 4 with fail
 obtain⟨u2,hu⟩:∃u,w2.alloc (.cells #[.slice la (setsW w).length lc] 43)=u:=⟨_,rfl⟩
 change Code.wpIn _ _ _ _ _ _ (w2.alloc (.cells #[.slice la (setsW w).length lc] 43));rw[hu] at HF2 HL2 HE2⊢
 try rw[hlb] at HL2
 try rw[hlb]
 clear hu hlb
 gi_wp2_with (refine wpListIn_load_mid rfl 46 (.tmp 2) rfl W.heap.size 0 rfl (cWr w s) _ (range_of HF2.o.x rfl) Tryz.underlying46 rfl wrInfoZ ?_)
 refine⟨trivial,?_⟩;refine(callsIn_wide.2 (zSets_any (by have:=HLS.o.1;omega) (by have:=HLS.o.2.1;omega) (fun x hx=>by have:=HLS.o.2.2 x hx;omega) u2 (HP.o.bl HF2.o.bl))).mono ?_;rintro e M ⟨g,base2,v2,rfl,hI⟩;obtain⟨zs,hzs,hSt,hzr⟩:=stsL_of hI.t.o.rows;have hzl:zs.length=(setsW w).length:=(by rw[<-hzs];simp);have hG0:WsG w s many bm lb g la lc v2 zs W M:=by
  refine⟨HF2.o.call hI.t.b,?_,hI.c,hSt,by rw[hzl];exact HLC.o,fun j hj=>?_⟩
  ·rw[hzl];exact box_bl HL2.o hI.t.b
  ·have hj':j<(setsW w).length:=by omega
   obtain⟨b1,s1,e,h1,h2⟩:=HE2.o j hj';have hx:zs[j]?=some zs[j]:=aP hj;have e1:zs[j].1=(setsW w)[j]:=(by simp only[<-hzs,List.getElem_map]);rw[hx,oQ,e1];refine⟨b1,s1,e,h1.bl hI.t.b,h2.bl hI.t.b,?_,HPX.o _ (dS hj')⟩;rw[<-e1];exact(hzr _ (dS hj)).reads
 have HG0:=aB hG0;have HM:=aB (show zs.length<=1000000 from by
  have h:=wsets_len (w:=w) (by have:=HLS.o.1;omega) (fun x hx=>by have:=HLS.o.2.2 x hx;omega);have h2:=h.o w.whens.length (aH _);have h3:=HLS.o.2.1;rw[gJ] at h2;rw[hzl];show(w.sets++w.whens.flatMap (·.sets)).length<=_;omega)
 rw[<-hzl];clear hI hzs hSt hzr hG0 HF2 HL2 HE2 HLC HPX HLS HP hzl;have hgs:g<M.heap.size:=lt_of_heap HG0.o.g;have HSQ:=aB (fun(A:World) (hb:Below M.heap.size M A)=>zSets1_seq g M.heap.size v2 zs HM.o A (by have:=hb.size;omega) hb.size (Bl.cell hb HG0.o.g.cell) (HG0.o.i.below hb));have HEL:=aB HG0.o.e;have HLC:=aB HG0.o.c;obtain⟨Q,hQ⟩:∃Q:Nat->StA,(fun j=>zs[j]?.getD stz)=Q:=⟨_,rfl⟩
 have hQj:∀j,zs[j]?.getD stz=Q j:=fun j=>congrFun hQ j;simp only[hQj] at HSQ HEL;have HG:=aB (WsH.mk HG0.o.f HG0.o.l);have HSZ:=aB (bT HG0.o.f.lt (lt_of_heap HG0.o.f.r));obtain⟨m,hm⟩:∃m,zs.length=m:=⟨_,rfl⟩
 rw[hm] at HSQ HEL HLC HM HG;rw[hm];clear hm hQj hQ HG0 hgs;have hnf:∀w',(binOp BinOp.eql 59 (.func (.func 45) #[] #[.pointer (some ⟨g,0,none⟩)]) .nilFunc).run Tryz.prog w'= .ok (.bool false) w':=fun _=>af;have hT0:WsT M M.heap.size (M.heap.size+1) [] 0 0 ((M.alloc (.cells #[.int .i64 0] 3)).alloc (.cells #[.int .i64 0] 3)):=
  ⟨((Bl.refl M).alloc _).alloc _,(Boxed.new M 3 (.int .i64 0)).alloc _,by have h:=Boxed.new (M.alloc (.cells #[.int .i64 0] 3)) 3 (.int .i64 0);simpa using h,by simp⟩
 have HT0:=aB hT0;clear hT0
 gi_wp2_with fail
 refine wpIn_loop_rounds 3 ?_;rw[roundsIn_succ]
 gi_wp2_with fail
 obtain⟨W1,hW1⟩:∃W1,(M.alloc (.cells #[.int .i64 0] 3)).alloc (.cells #[.int .i64 0] 3)=W1:=⟨_,rfl⟩
 have hz1:W1.heap.size=M.heap.size+2:=(by rw[<-hW1];simp);rw[hW1] at HT0⊢;clear hW1 hnf;refine' wpIn_rangeFunc_ownX (m:=4) rfl enters_zSets1 (HSQ.o W1 HT0.o.bl) aE (fun _=>rfl)
  (ItW M M.heap.size (M.heap.size+1) [] many 0) (IxW M M.heap.size (M.heap.size+1) [] many 0)
  (fun s A B row hs hg hr=>⟨hs.1.kept aE aa hg hr,hs.2⟩)
  (fun c s A B row ⟨h1,h2,h3,h4⟩ hg hr=>⟨h1,h2,h3.kept aE aa hg hr,h4⟩)
  ⟨HT0.o,.inr (.inl rfl)⟩ (fun j=> .cells (qD (Q j).1.x (Q j).sv).toArray 38 (0,0)) (fun _=>rfl) _ ?assign ?body ?done ?stop
 case assign=>
  intro l0 pre j B K hI hK;have hb:Bl B (B.alloc (.cells (qD (Q j).1.x (Q j).sv).toArray 38)):=(Bl.refl B).alloc _;have hsz:=hI.1.bl.size;obtain⟨z,hz⟩:∃z,B.heap.size=z:=⟨_,rfl⟩
  have hK':=hK z _ (.bl hb) (hb.mono hsz) ⟨hI.1.call hb,hI.2⟩ (aV B _ hz.symm);clear hK hI hb;dsimp only[StA.sv,qD] at hK'⊢
  gi_wp2
  exact hK'
 case body=>
  rintro l0 pre xx z A hl0 ⟨hT,hcond⟩ hX hsp;obtain⟨hxm,rfl⟩:=some_to hsp;rw[List.length_range] at hT hcond;have HC:=aB hcond;have HXB:=aB hX;have cm:A.cell? ⟨bm,0,none⟩=some (.int .i64 many):=Bl.cell hT.bl (cK HG.o.f.m);have cl:A.cell? ⟨lb,0,none⟩=some (.slice la m lc):=Bl.cell hT.bl HG.o.l.cell;have ct:=hT.t.cell;have cn:=hT.n.cell;obtain⟨b1,s1,ea,hcs1,hr1,hr2,hpx⟩:=HEL.o xx hxm;have HEX:Hid (∀B,Bl A B->∀o2,d2k B o2 0 (S (Q xx).1.n::qD (Q xx).1.x (Q xx).sv)->∀c2,Calls Tryz.prog 16 #[.slice (some ⟨o2,0,none⟩) 1 1,.slice (some ⟨b1,xx * 9,none⟩) 1 c2] B fun e w'=>e= .returned (.bool true)/\Bl B w'):=fun B hb o2 h2 c2=>
   vSame_one hpx h2 ((hcs1.keep (hT.bl.block _ (hcs1.lt (Nat.succ_pos _)))).bl hb) ((hr2.bl hT.bl).bl hb) ((hr1.bl hT.bl).bl hb)
  subst ea;have HT:=aB hT;have HSN:=aB (show iU xx++[xx]=iU (xx+1) from List.range_succ.symm);have hge:decide (m<=xx)=false:=decide_eq_false aE;have hxb:(xx:Int)+1<=(m:Int):=aE;have hm90:m<=1000000:=HM.o;have HWX:Hid (IntKind.i64.wrap ((xx:Int)+1)=(xx:Int)+1/\(0:Int)<=(xx:Int)+1/\(xx:Int)+1<=(lc:Int)/\((xx:Int)+1).toNat=xx+1/\¬lc=xx):=by
   have hcap:m<=lc:=HLC.o;exact⟨by simp[IntKind.wrap,IntKind.bits,IntKind.signed];omega,by omega,by omega,by omega,by omega⟩
  have hcap:m<=lc:=HLC.o;clear hT hX hcond hcs1 hr1 hr2 hpx hsp
  gi_wp2_with fail
  refine(d3p (fun B=>B.cell? ⟨(M.heap.size+1),0,none⟩=some (.int .i64 (xx:Int))/\B.cell? ⟨lb,0,none⟩=some (.slice (some ⟨b1,0,none⟩) m lc)/\d2k B z 0 (qD (Q xx).1.x (Q xx).sv)) ((.take 0 (.take 1 (.take 2 (.take 3 (.take 4 (.take 5 (.take 6 (.take 7 (.take 9 (.take 10 (.take 11 (.take 12 (.take 13 (.one 8 (.one 14 (.take 15 (.take 16 .done)))))))))))))))))) af af af (fun c a d v w h=>by cases d<;>exact h) af (fun a w h=>h) (⟨((Bl.refl A).drew).cell cn,((Bl.refl A).drew).cell cl,(cellsAt_heap HXB.o).bl ((Bl.refl A).drew)⟩) ?_);intro wd HWD hY;iterate 6 (refine aI rfl ab (by intro w hSw;(try dsimp only at hSw);obtain⟨k0,k1,k2⟩:=hSw;obtain⟨w1,w2,w3,w4,w5⟩:=HWX.o;go_simp;(try(first |with_reducible rfl|rfl))) ?_;(try simp only[aK,aA,aD,aF]))
  refine aI rfl ab (fun wS hSw=>run_load_midO rfl rfl hSw.2.2.range Tryz.underlying38 rfl d4b) ?_;(try simp only[aK,aA,aD,aF])
  iterate 6 (refine aI rfl ab (by intro w hSw;(try dsimp only at hSw);obtain⟨k0,k1,k2⟩:=hSw;obtain⟨w1,w2,w3,w4,w5⟩:=HWX.o;go_simp;(try(first |with_reducible rfl|rfl))) ?_;(try simp only[aK,aA,aD,aF]))
  refine aL rfl (fun K hK=>?_);rw[if_pos ab];refine d9c (vs:=S (Q xx).1.n::qD (Q xx).1.x (Q xx).sv) rfl Tryz.underlying43 rfl st1 rfl ?_;refine hK.o _ _ ⟨((Bl.refl _).alloc _).cell hY.1,((Bl.refl _).alloc _).cell hY.2.1,hY.2.2.bl ((Bl.refl _).alloc _)⟩ ?_;clear hY hK K;intro hY;(try simp only[aK,aA,aD,aF])
  refine aL rfl (fun K hK=>?_);go_simp;(refine(HEX.o _ (HWD.o.alloc _) wd.heap.size (cellsAt_heap (aN wd _)) _).mono ?_;rintro e z14 ⟨rfl,hb14⟩;have HB14:=aB ((HWD.o.alloc _).call hb14));go_wp2_with fail;refine hK.o _ _ ((by first |exact hY|exact⟨hb14.cell hY.1,hb14.cell hY.2.1,hY.2.2.bl hb14⟩)) ?_;clear hY hK K;intro hY;iterate 2 (refine aI rfl ab (by intro w hSw;(try dsimp only at hSw);obtain⟨k0,k1,k2⟩:=hSw;obtain⟨w1,w2,w3,w4,w5⟩:=HWX.o;go_simp;(try(first |with_reducible rfl|rfl))) ?_;(try simp only[aK,aA,aD,aF]))
  refine fO ?_;clear hY hb14 cm cl ct cn;have HT4:=aB (HT.o.call HB14.o);have cm:z14.cell? ⟨bm,0,none⟩=some (.int .i64 many):=Bl.cell HT4.o.bl (cK HG.o.f.m);have cn:=HT4.o.n.cell;have zn:=aJ (show z14.heap[(M.heap.size+1)]?=_ from HT4.o.n) 0;have hT1:=HT4.o.setN aE aE ((xx:Int)+1);have HT1:=aB hT1;have ct1:=hT1.t.cell;have cn1:=hT1.n.cell;have cm1:(z14.setCell ⟨(M.heap.size+1),0,none⟩ (.int .i64 ((xx:Int)+1))).cell? ⟨bm,0,none⟩=some (.int .i64 many):=Bl.cell hT1.bl (cK HG.o.f.m);have HLN:=aB (show(iU xx++[xx]).length=xx+1 from by simp);clear hT1 HXB;by_cases hmany:many<=(xx:Int)+1
  ·gi_wp2
   exact⟨(KeepsUp.bl HB14.o).trans (KeepsUp.setCell z14 _ (by show M.heap.size+1<_;omega)),rfl,rfl,by rw[HLN.o];exact HT1.o,by rw[HLN.o];omega,by rw[HLN.o];omega,by rw[HLN.o];have:=HC.o;omega⟩
  ·gi_wp2
   exact⟨(KeepsUp.bl HB14.o).trans (KeepsUp.setCell z14 _ (by show M.heap.size+1<_;omega)),(HB14.o.mono (by have:=HT.o.bl.size;omega)).setCell (p:=⟨M.heap.size+1,0,none⟩) (by show _<=M.heap.size+1;omega) _,by show WsT _ _ _ _ _ _ _;rw[HLN.o];exact HT1.o,.inr (.inr (by rw[HLN.o];omega))⟩
 case done=>
  rintro D ys WA hD rfl ⟨hT,hc⟩ hK;rw[List.length_range] at hT hc;obtain⟨kk,hkk⟩:∃kk:Nat,m=kk:=⟨_,rfl⟩
  have hmin:min (m:Int) (max 1 many)=(kk:Int):=aE;rw[hkk] at hT;clear hc hkk;have HK:=aB hK;have hDl:D<WA.heap.size:=(aC.1 hK).1;have hzA:M.heap.size<=WA.heap.size:=hT.bl.size;have cm:WA.cell? ⟨bm,0,none⟩=some (.int .i64 many):=Bl.cell hT.bl (cK HG.o.f.m);have cl:WA.cell? ⟨lb,0,none⟩=some (.slice la m lc):=Bl.cell hT.bl HG.o.l.cell;have ct:=hT.t.cell;have cn:=hT.n.cell;have hbb:((kk:Int) != min (m:Int) (max 1 many))=false:=(by rw[hmin];simp);have HT1:=aB (show WsT M WA.heap.size (WA.heap.size+1) [D] 1 0 ((WA.alloc (.cells #[.int .i64 1] 3)).alloc (.cells #[.int .i64 0] 3)) from
   ⟨(hT.bl.alloc hzA _).alloc ak _,(Boxed.new WA 3 (.int .i64 1)).alloc _,by have h:=Boxed.new (WA.alloc (.cells #[.int .i64 1] 3)) 3 (.int .i64 0);simpa using h,fun D1 h1=>by
    obtain rfl:D1=D:=cC;rw[(((Bl.refl WA).alloc (.cells #[.int .i64 1] 3)).alloc (.cells #[.int .i64 0] 3)).block _ hDl];exact HK.o⟩)
  clear hT hK hmin
  gi_wp2_with fail
  rw[roundsIn_succ]
  gi_wp2_with fail
  obtain⟨W2,hW2⟩:∃W2,(WA.alloc (.cells #[.int .i64 1] 3)).alloc (.cells #[.int .i64 0] 3)=W2:=⟨_,rfl⟩
  have hz2:W2.heap.size=WA.heap.size+2:=(by rw[<-hW2];simp);rw[hW2] at HT1⊢;clear hW2 cm cl ct cn hbb;refine' wpIn_rangeFunc_ownX (m:=4) rfl enters_zSets1 (HSQ.o W2 HT1.o.bl) aE (fun _=>rfl)
   (ItW M WA.heap.size (WA.heap.size+1) [D] many 1) (IxW M WA.heap.size (WA.heap.size+1) [D] many 1)
   (fun s A B row hs hg hr=>⟨hs.1.kept aE (fun D1 h1=>by
    obtain rfl:D1=D:=cC;omega) hg hr,hs.2⟩)
   (fun c s A B row ⟨h1,h2,h3,h4⟩ hg hr=>⟨h1,h2,h3.kept aE (fun D1 h1=>by
    obtain rfl:D1=D:=cC;omega) hg hr,h4⟩)
   ⟨HT1.o,.inl rfl⟩ (fun j=> .cells (qD (Q j).1.x (Q j).sv).toArray 38 (0,0)) (fun _=>rfl) _ ?assignA ?bodyA ?doneA ?stopA
  case assignA=>
   intro l0 pre j B K hI hK;have hb:Bl B (B.alloc (.cells (qD (Q j).1.x (Q j).sv).toArray 38)):=(Bl.refl B).alloc _;have hsz:=hI.1.bl.size;obtain⟨z,hz⟩:∃z,B.heap.size=z:=⟨_,rfl⟩
   have hK':=hK z _ (.bl hb) (hb.mono hsz) ⟨hI.1.call hb,hI.2⟩ (aV B _ hz.symm);clear hK hI hb;dsimp only[StA.sv,qD] at hK'⊢
   gi_wp2
   exact hK'
  case bodyA=>
   rintro l0 pre xx z A hl0 ⟨hT,hcond⟩ hX hsp;obtain⟨hxm,rfl⟩:=some_to hsp;rw[List.length_range] at hT hcond;have HC:=aB hcond;have HXB:=aB hX;have cm:A.cell? ⟨bm,0,none⟩=some (.int .i64 many):=Bl.cell hT.bl (cK HG.o.f.m);have cl:A.cell? ⟨lb,0,none⟩=some (.slice la m lc):=Bl.cell hT.bl HG.o.l.cell;have ct:=hT.t.cell;have cn:=hT.n.cell;obtain⟨b1,s1,ea,hcs1,hr1,hr2,hpx⟩:=HEL.o xx hxm;have HEX:Hid (∀B,Bl A B->∀o2,d2k B o2 0 (S (Q xx).1.n::qD (Q xx).1.x (Q xx).sv)->∀c2,Calls Tryz.prog 16 #[.slice (some ⟨o2,0,none⟩) 1 1,.slice (some ⟨b1,xx * 9,none⟩) 1 c2] B fun e w'=>e= .returned (.bool true)/\Bl B w'):=fun B hb o2 h2 c2=>
    vSame_one hpx h2 ((hcs1.keep (hT.bl.block _ (hcs1.lt (Nat.succ_pos _)))).bl hb) ((hr2.bl hT.bl).bl hb) ((hr1.bl hT.bl).bl hb)
   subst ea;have HT:=aB hT;have HSN:=aB (show iU xx++[xx]=iU (xx+1) from List.range_succ.symm);have hge:decide (m<=xx)=false:=decide_eq_false aE;have hxb:(xx:Int)+1<=(m:Int):=aE;have hm90:m<=1000000:=HM.o;have HWX:Hid (IntKind.i64.wrap ((xx:Int)+1)=(xx:Int)+1/\(0:Int)<=(xx:Int)+1/\(xx:Int)+1<=(lc:Int)/\((xx:Int)+1).toNat=xx+1/\¬lc=xx):=by
    have hcap:m<=lc:=HLC.o;exact⟨by simp[IntKind.wrap,IntKind.bits,IntKind.signed];omega,by omega,by omega,by omega,by omega⟩
   have hcap:m<=lc:=HLC.o;clear hT hX hcond hcs1 hr1 hr2 hpx hsp
   gi_wp2_with fail
   refine(d3p (fun B=>B.cell? ⟨(WA.heap.size+1),0,none⟩=some (.int .i64 (xx:Int))/\B.cell? ⟨lb,0,none⟩=some (.slice (some ⟨b1,0,none⟩) m lc)/\d2k B z 0 (qD (Q xx).1.x (Q xx).sv)) ((.take 0 (.take 1 (.take 2 (.take 3 (.take 4 (.take 5 (.take 6 (.take 7 (.take 9 (.take 10 (.take 11 (.take 12 (.take 13 (.one 8 (.one 14 (.take 15 (.take 16 .done)))))))))))))))))) af af af (fun c a d v w h=>by cases d<;>exact h) af (fun a w h=>h) (⟨((Bl.refl A).drew).cell cn,((Bl.refl A).drew).cell cl,(cellsAt_heap HXB.o).bl ((Bl.refl A).drew)⟩) ?_);intro wd HWD hY;iterate 6 (refine aI rfl ab (by intro w hSw;(try dsimp only at hSw);obtain⟨k0,k1,k2⟩:=hSw;obtain⟨w1,w2,w3,w4,w5⟩:=HWX.o;go_simp;(try(first |with_reducible rfl|rfl))) ?_;(try simp only[aK,aA,aD,aF]))
   refine aI rfl ab (fun wS hSw=>run_load_midO rfl rfl hSw.2.2.range Tryz.underlying38 rfl d4b) ?_;(try simp only[aK,aA,aD,aF])
   iterate 6 (refine aI rfl ab (by intro w hSw;(try dsimp only at hSw);obtain⟨k0,k1,k2⟩:=hSw;obtain⟨w1,w2,w3,w4,w5⟩:=HWX.o;go_simp;(try(first |with_reducible rfl|rfl))) ?_;(try simp only[aK,aA,aD,aF]))
   refine aL rfl (fun K hK=>?_);rw[if_pos ab];refine d9c (vs:=S (Q xx).1.n::qD (Q xx).1.x (Q xx).sv) rfl Tryz.underlying43 rfl st1 rfl ?_;refine hK.o _ _ ⟨((Bl.refl _).alloc _).cell hY.1,((Bl.refl _).alloc _).cell hY.2.1,hY.2.2.bl ((Bl.refl _).alloc _)⟩ ?_;clear hY hK K;intro hY;(try simp only[aK,aA,aD,aF])
   refine aL rfl (fun K hK=>?_);go_simp;(refine(HEX.o _ (HWD.o.alloc _) wd.heap.size (cellsAt_heap (aN wd _)) _).mono ?_;rintro e z14 ⟨rfl,hb14⟩;have HB14:=aB ((HWD.o.alloc _).call hb14));go_wp2_with fail;refine hK.o _ _ ((by first |exact hY|exact⟨hb14.cell hY.1,hb14.cell hY.2.1,hY.2.2.bl hb14⟩)) ?_;clear hY hK K;intro hY;iterate 2 (refine aI rfl ab (by intro w hSw;(try dsimp only at hSw);obtain⟨k0,k1,k2⟩:=hSw;obtain⟨w1,w2,w3,w4,w5⟩:=HWX.o;go_simp;(try(first |with_reducible rfl|rfl))) ?_;(try simp only[aK,aA,aD,aF]))
   refine fO ?_;clear hY hb14 cm cl ct cn;have HT4:=aB (HT.o.call HB14.o);have cm:z14.cell? ⟨bm,0,none⟩=some (.int .i64 many):=Bl.cell HT4.o.bl (cK HG.o.f.m);have cn:=HT4.o.n.cell;have zn:=aJ (show z14.heap[(WA.heap.size+1)]?=_ from HT4.o.n) 0;have hT1:=HT4.o.setN aE aE ((xx:Int)+1);have HT1:=aB hT1;have ct1:=hT1.t.cell;have cn1:=hT1.n.cell;have cm1:(z14.setCell ⟨(WA.heap.size+1),0,none⟩ (.int .i64 ((xx:Int)+1))).cell? ⟨bm,0,none⟩=some (.int .i64 many):=Bl.cell hT1.bl (cK HG.o.f.m);have HLN:=aB (show(iU xx++[xx]).length=xx+1 from by simp);clear hT1 HXB
   gi_wp2
   exact⟨(KeepsUp.bl HB14.o).trans (KeepsUp.setCell z14 _ (by show WA.heap.size+1<_;omega)),(HB14.o.mono (by have:=HT.o.bl.size;omega)).setCell (p:=⟨WA.heap.size+1,0,none⟩) (by show _<=WA.heap.size+1;omega) _,by show WsT _ _ _ _ _ _ _;rw[HLN.o];exact HT1.o,.inl rfl⟩
  case doneA=>
   rintro D' zs' W' hD' rfl ⟨hT,-⟩ hK';rw[List.length_range] at hT;have HK':=aB hK';have hDl':D'<W'.heap.size:=(aC.1 hK').1;have HDm:=aB (hT.d D aa);have hDl2:D<W'.heap.size:=(aC.1 HDm.o).1;have cm:W'.cell? ⟨bm,0,none⟩=some (.int .i64 many):=Bl.cell hT.bl (cK HG.o.f.m);have cl:W'.cell? ⟨lb,0,none⟩=some (.slice la m lc):=Bl.cell hT.bl HG.o.l.cell;have ct:=hT.t.cell;have cn:=hT.n.cell;have HBx:=aB ((Bl.refl W').alloc (.cells #[.int .i64 2] 3));have HR':=aB (keep_b HG.o.f.r hT.bl);have HB':=aB (HG.o.f.bl.call hT.bl);clear hT hK'
   gi_wp2_with fail
   rw[roundsIn_succ]
   gi_wp2_with fail
   refine⟨trivial,?_⟩;refine(callsIn_wide.2 (HWO.o _ (HB'.o.call HBx.o))).mono ?_;rintro e W3 ⟨rfl,hb3⟩;have hb9:Bl W' W3:=HBx.o.call hb3;have hr3:=keep_b HR'.o hb9;have c2:=cK hr3;have g2:=aJ hr3 0;have HB9:=aB hb9;clear hb3 hb9 hr3 cm cl ct cn;have hsz1:=HSZ.o.1;have hsz2:=HSZ.o.2
   gi_wp2
   refine ws_leave (br:=bm+1) (D:=D) (D':=D') rfl (eF c2) ?_ ?_ aE aE aE ((HB'.o.call HB9.o).set (p:=⟨bm+1,0,none⟩) (by show W.heap.size<=bm+1;omega) _)
   ·exact(aM W3 ⟨bm+1,0,none⟩ _ D (by show D≠bm+1;omega)).trans ((HB9.o.block _ hDl2).trans HDm.o)
   ·exact(aM W3 ⟨bm+1,0,none⟩ _ D' (by show D'≠bm+1;omega)).trans ((HB9.o.block _ hDl').trans HK'.o)
  case stopA=>
   rintro D' c pre W' hD' hpre hx hK';exact absurd hx.2.1 ae
 case stop=>
  rintro D c pre WA hD hpre ⟨rfl,-,hT,hle,hl1,hor⟩ hK;obtain⟨kk,hkm,rfl⟩:=hpre;rw[List.length_range] at hT hle hl1 hor;have hmin:min (m:Int) (max 1 many)=(kk:Int):=aE;clear hle hl1 hor hkm;have HK:=aB hK;have hDl:D<WA.heap.size:=(aC.1 hK).1;have hzA:M.heap.size<=WA.heap.size:=hT.bl.size;have cm:WA.cell? ⟨bm,0,none⟩=some (.int .i64 many):=Bl.cell hT.bl (cK HG.o.f.m);have cl:WA.cell? ⟨lb,0,none⟩=some (.slice la m lc):=Bl.cell hT.bl HG.o.l.cell;have ct:=hT.t.cell;have cn:=hT.n.cell;have hbb:((kk:Int) != min (m:Int) (max 1 many))=false:=(by rw[hmin];simp);have HT1:=aB (show WsT M WA.heap.size (WA.heap.size+1) [D] 1 0 ((WA.alloc (.cells #[.int .i64 1] 3)).alloc (.cells #[.int .i64 0] 3)) from
   ⟨(hT.bl.alloc hzA _).alloc ak _,(Boxed.new WA 3 (.int .i64 1)).alloc _,by have h:=Boxed.new (WA.alloc (.cells #[.int .i64 1] 3)) 3 (.int .i64 0);simpa using h,fun D1 h1=>by
    obtain rfl:D1=D:=cC;rw[(((Bl.refl WA).alloc (.cells #[.int .i64 1] 3)).alloc (.cells #[.int .i64 0] 3)).block _ hDl];exact HK.o⟩)
  clear hT hK hmin
  gi_wp2_with fail
  rw[roundsIn_succ]
  gi_wp2_with fail
  obtain⟨W2,hW2⟩:∃W2,(WA.alloc (.cells #[.int .i64 1] 3)).alloc (.cells #[.int .i64 0] 3)=W2:=⟨_,rfl⟩
  have hz2:W2.heap.size=WA.heap.size+2:=(by rw[<-hW2];simp);rw[hW2] at HT1⊢;clear hW2 cm cl ct cn hbb;refine' wpIn_rangeFunc_ownX (m:=4) rfl enters_zSets1 (HSQ.o W2 HT1.o.bl) aE (fun _=>rfl)
   (ItW M WA.heap.size (WA.heap.size+1) [D] many 1) (IxW M WA.heap.size (WA.heap.size+1) [D] many 1)
   (fun s A B row hs hg hr=>⟨hs.1.kept aE (fun D1 h1=>by
    obtain rfl:D1=D:=cC;omega) hg hr,hs.2⟩)
   (fun c s A B row ⟨h1,h2,h3,h4⟩ hg hr=>⟨h1,h2,h3.kept aE (fun D1 h1=>by
    obtain rfl:D1=D:=cC;omega) hg hr,h4⟩)
   ⟨HT1.o,.inl rfl⟩ (fun j=> .cells (qD (Q j).1.x (Q j).sv).toArray 38 (0,0)) (fun _=>rfl) _ ?assignB ?bodyB ?doneB ?c5v
  case assignB=>
   intro l0 pre j B K hI hK;have hb:Bl B (B.alloc (.cells (qD (Q j).1.x (Q j).sv).toArray 38)):=(Bl.refl B).alloc _;have hsz:=hI.1.bl.size;obtain⟨z,hz⟩:∃z,B.heap.size=z:=⟨_,rfl⟩
   have hK':=hK z _ (.bl hb) (hb.mono hsz) ⟨hI.1.call hb,hI.2⟩ (aV B _ hz.symm);clear hK hI hb;dsimp only[StA.sv,qD] at hK'⊢
   gi_wp2
   exact hK'
  case bodyB=>
   rintro l0 pre xx z A hl0 ⟨hT,hcond⟩ hX hsp;obtain⟨hxm,rfl⟩:=some_to hsp;rw[List.length_range] at hT hcond;have HC:=aB hcond;have HXB:=aB hX;have cm:A.cell? ⟨bm,0,none⟩=some (.int .i64 many):=Bl.cell hT.bl (cK HG.o.f.m);have cl:A.cell? ⟨lb,0,none⟩=some (.slice la m lc):=Bl.cell hT.bl HG.o.l.cell;have ct:=hT.t.cell;have cn:=hT.n.cell;obtain⟨b1,s1,ea,hcs1,hr1,hr2,hpx⟩:=HEL.o xx hxm;have HEX:Hid (∀B,Bl A B->∀o2,d2k B o2 0 (S (Q xx).1.n::qD (Q xx).1.x (Q xx).sv)->∀c2,Calls Tryz.prog 16 #[.slice (some ⟨o2,0,none⟩) 1 1,.slice (some ⟨b1,xx * 9,none⟩) 1 c2] B fun e w'=>e= .returned (.bool true)/\Bl B w'):=fun B hb o2 h2 c2=>
    vSame_one hpx h2 ((hcs1.keep (hT.bl.block _ (hcs1.lt (Nat.succ_pos _)))).bl hb) ((hr2.bl hT.bl).bl hb) ((hr1.bl hT.bl).bl hb)
   subst ea;have HT:=aB hT;have HSN:=aB (show iU xx++[xx]=iU (xx+1) from List.range_succ.symm);have hge:decide (m<=xx)=false:=decide_eq_false aE;have hxb:(xx:Int)+1<=(m:Int):=aE;have hm90:m<=1000000:=HM.o;have HWX:Hid (IntKind.i64.wrap ((xx:Int)+1)=(xx:Int)+1/\(0:Int)<=(xx:Int)+1/\(xx:Int)+1<=(lc:Int)/\((xx:Int)+1).toNat=xx+1/\¬lc=xx):=by
    have hcap:m<=lc:=HLC.o;exact⟨by simp[IntKind.wrap,IntKind.bits,IntKind.signed];omega,by omega,by omega,by omega,by omega⟩
   have hcap:m<=lc:=HLC.o;clear hT hX hcond hcs1 hr1 hr2 hpx hsp
   gi_wp2_with fail
   refine(d3p (fun B=>B.cell? ⟨(WA.heap.size+1),0,none⟩=some (.int .i64 (xx:Int))/\B.cell? ⟨lb,0,none⟩=some (.slice (some ⟨b1,0,none⟩) m lc)/\d2k B z 0 (qD (Q xx).1.x (Q xx).sv)) ((.take 0 (.take 1 (.take 2 (.take 3 (.take 4 (.take 5 (.take 6 (.take 7 (.take 9 (.take 10 (.take 11 (.take 12 (.take 13 (.one 8 (.one 14 (.take 15 (.take 16 .done)))))))))))))))))) af af af (fun c a d v w h=>by cases d<;>exact h) af (fun a w h=>h) (⟨((Bl.refl A).drew).cell cn,((Bl.refl A).drew).cell cl,(cellsAt_heap HXB.o).bl ((Bl.refl A).drew)⟩) ?_);intro wd HWD hY;iterate 6 (refine aI rfl ab (by intro w hSw;(try dsimp only at hSw);obtain⟨k0,k1,k2⟩:=hSw;obtain⟨w1,w2,w3,w4,w5⟩:=HWX.o;go_simp;(try(first |with_reducible rfl|rfl))) ?_;(try simp only[aK,aA,aD,aF]))
   refine aI rfl ab (fun wS hSw=>run_load_midO rfl rfl hSw.2.2.range Tryz.underlying38 rfl d4b) ?_;(try simp only[aK,aA,aD,aF])
   iterate 6 (refine aI rfl ab (by intro w hSw;(try dsimp only at hSw);obtain⟨k0,k1,k2⟩:=hSw;obtain⟨w1,w2,w3,w4,w5⟩:=HWX.o;go_simp;(try(first |with_reducible rfl|rfl))) ?_;(try simp only[aK,aA,aD,aF]))
   refine aL rfl (fun K hK=>?_);rw[if_pos ab];refine d9c (vs:=S (Q xx).1.n::qD (Q xx).1.x (Q xx).sv) rfl Tryz.underlying43 rfl st1 rfl ?_;refine hK.o _ _ ⟨((Bl.refl _).alloc _).cell hY.1,((Bl.refl _).alloc _).cell hY.2.1,hY.2.2.bl ((Bl.refl _).alloc _)⟩ ?_;clear hY hK K;intro hY;(try simp only[aK,aA,aD,aF])
   refine aL rfl (fun K hK=>?_);go_simp;(refine(HEX.o _ (HWD.o.alloc _) wd.heap.size (cellsAt_heap (aN wd _)) _).mono ?_;rintro e z14 ⟨rfl,hb14⟩;have HB14:=aB ((HWD.o.alloc _).call hb14));go_wp2_with fail;refine hK.o _ _ ((by first |exact hY|exact⟨hb14.cell hY.1,hb14.cell hY.2.1,hY.2.2.bl hb14⟩)) ?_;clear hY hK K;intro hY;iterate 2 (refine aI rfl ab (by intro w hSw;(try dsimp only at hSw);obtain⟨k0,k1,k2⟩:=hSw;obtain⟨w1,w2,w3,w4,w5⟩:=HWX.o;go_simp;(try(first |with_reducible rfl|rfl))) ?_;(try simp only[aK,aA,aD,aF]))
   refine fO ?_;clear hY hb14 cm cl ct cn;have HT4:=aB (HT.o.call HB14.o);have cm:z14.cell? ⟨bm,0,none⟩=some (.int .i64 many):=Bl.cell HT4.o.bl (cK HG.o.f.m);have cn:=HT4.o.n.cell;have zn:=aJ (show z14.heap[(WA.heap.size+1)]?=_ from HT4.o.n) 0;have hT1:=HT4.o.setN aE aE ((xx:Int)+1);have HT1:=aB hT1;have ct1:=hT1.t.cell;have cn1:=hT1.n.cell;have cm1:(z14.setCell ⟨(WA.heap.size+1),0,none⟩ (.int .i64 ((xx:Int)+1))).cell? ⟨bm,0,none⟩=some (.int .i64 many):=Bl.cell hT1.bl (cK HG.o.f.m);have HLN:=aB (show(iU xx++[xx]).length=xx+1 from by simp);clear hT1 HXB
   gi_wp2
   exact⟨(KeepsUp.bl HB14.o).trans (KeepsUp.setCell z14 _ (by show WA.heap.size+1<_;omega)),(HB14.o.mono (by have:=HT.o.bl.size;omega)).setCell (p:=⟨WA.heap.size+1,0,none⟩) (by show _<=WA.heap.size+1;omega) _,by show WsT _ _ _ _ _ _ _;rw[HLN.o];exact HT1.o,.inl rfl⟩
  case doneB=>
   rintro D' zs' W' hD' rfl ⟨hT,-⟩ hK';rw[List.length_range] at hT;have HK':=aB hK';have hDl':D'<W'.heap.size:=(aC.1 hK').1;have HDm:=aB (hT.d D aa);have hDl2:D<W'.heap.size:=(aC.1 HDm.o).1;have cm:W'.cell? ⟨bm,0,none⟩=some (.int .i64 many):=Bl.cell hT.bl (cK HG.o.f.m);have cl:W'.cell? ⟨lb,0,none⟩=some (.slice la m lc):=Bl.cell hT.bl HG.o.l.cell;have ct:=hT.t.cell;have cn:=hT.n.cell;have HBx:=aB ((Bl.refl W').alloc (.cells #[.int .i64 2] 3));have HR':=aB (keep_b HG.o.f.r hT.bl);have HB':=aB (HG.o.f.bl.call hT.bl);clear hT hK'
   gi_wp2_with fail
   rw[roundsIn_succ]
   gi_wp2_with fail
   refine⟨trivial,?_⟩;refine(callsIn_wide.2 (HWO.o _ (HB'.o.call HBx.o))).mono ?_;rintro e W3 ⟨rfl,hb3⟩;have hb9:Bl W' W3:=HBx.o.call hb3;have hr3:=keep_b HR'.o hb9;have c2:=cK hr3;have g2:=aJ hr3 0;have HB9:=aB hb9;clear hb3 hb9 hr3 cm cl ct cn;have hsz1:=HSZ.o.1;have hsz2:=HSZ.o.2
   gi_wp2
   refine ws_leave (br:=bm+1) (D:=D) (D':=D') rfl (eF c2) ?_ ?_ aE aE aE ((HB'.o.call HB9.o).set (p:=⟨bm+1,0,none⟩) (by show W.heap.size<=bm+1;omega) _)
   ·exact(aM W3 ⟨bm+1,0,none⟩ _ D (by show D≠bm+1;omega)).trans ((HB9.o.block _ hDl2).trans HDm.o)
   ·exact(aM W3 ⟨bm+1,0,none⟩ _ D' (by show D'≠bm+1;omega)).trans ((HB9.o.block _ hDl').trans HK'.o)
  case c5v=>
   rintro D' c pre W' hD' hpre hx hK';exact absurd hx.2.1 ae
end
end Go.Proofs.YtohlomdapelgeaaGreatDoor
