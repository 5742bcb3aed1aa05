/- Texts beside the shared ones. -/
import Derived.Test.YtdbkbfkpmnpldaaGreatDoorVX0
import Derived.Test.YtdbkbfkpmnpldaaGreatDoorVFH
namespace Go.Proofs.YtdbkbfkpmnpldaaGreatDoor
open Go.RowKit
open _root_.Go.Act renaming put->aK
open _root_.Array renaming getElem?_eq_some_iff->aC
open _root_.Go.RowKit.Below renaming grown->iL
open _root_.Bool renaming and_eq_true->aQ
open _root_.Go.Lib renaming hid->aB
open _root_.List renaming length_append->bD,length_map->mD,map_append->kW,mem_append->iX,mem_singleton->gQ,setIfInBounds_toArray->aA,set_cons_succ->aF,set_cons_zero->aD,take_of_length_le->jS
open _root_.Nat renaming le_refl->aH,zero_le->dL
open NoPanic renaming normal->bF
open _root_.Go.World renaming ownsRow_nil->d2l,size_alloc->aR
set_option maxRecDepth 100000
set_option maxHeartbeats 16000000
section
def overE(n:List UInt8)(rows args:Nat)(r:List Vl×Int):Vl×Int:=if r.2≠0 then(zVl,r.2) else summedV n r.1 rows args
theorem zero_err{c:Int}{v:Vl}(h:c≠0->v=zVl)(hc:c≠0):v=zVl:=h hc
theorem wwork_sum(x y:Bd)(hk:x.k=5)(rest:List Bd)(hargs:x.args=y::rest)(hfew:x.args.length<=999999)(hn:Four x.n)(rows:List (List Vl))(hrows:rows.length<=999999)(fr:List Vl->Vl×Int)(hz:∀r,(fr r).2≠0->(fr r).1=zVl)(W:World)(v:Value)(ra:Option Addr)(rc:Nat)(hrc:rows.length<=rc)(hv:ReadsD W x v)
  (hra:0<rows.length->∃rb ro,ra=some ⟨rb,ro,none⟩)
  (hf:∀(j:Nat) (hj:j<rows.length) (rb ro:Nat),ra=some ⟨rb,ro,none⟩->∀(W':World) (v':Value),Bl W W'->ReadsD W' y v'->Calls Tryz.prog 44 #[v',.slice (some ⟨rb,ro+j,none⟩) 1 (rc-j)] W' fun e w'=>e=VE (fr rows[j])/\Bl W' w')
  (hI:(seqV (rows.map fr)).2=0->∀v∈(seqV (rows.map fr)).1,Int2 v):Calls Tryz.prog 44 #[v,.slice ra rows.length rc] W fun e w'=>e=VE (overE x.n rows.length x.args.length (seqV (rows.map fr)))/\Bl W w':=by
 have HFF:=aB hf;have HIN:=aB hI;have HRA:=aB hra;have HZE:=aB hz;have HNF:=aB hn;have HLF:Hid ((rows.map fr).length=rows.length):=mD ..;clear hf hI hra hz hn;obtain⟨Z,HZ⟩:∃Z,Hid (overE x.n rows.length x.args.length (seqV (rows.map fr))=Z):=⟨_,rfl⟩
 rw[HZ.o];obtain⟨sv,rfl,hR⟩:=hv;obtain⟨a,cap,rfl,hc⟩:=hR.shape;have HC:=aB hc;clear hR hc;obtain⟨k,t,⟨v1,v2,v3⟩,p,o,n,args⟩:=x;simp only[Bd.k,Bd.t,Bd.v,Bd.p,Bd.o,Bd.n,Bd.args] at *;obtain⟨m,hm⟩:∃m,args.length=m:=⟨_,rfl⟩
 have HM:=aB hm;rw[hm];clear hm;have HF0:=aB (WkF.start (cellsB k t v1 v2 v3 p o n (.slice a m cap)) W);obtain⟨e0,e1,e2,e3,e4,e5,e6,e7,e8⟩:=nine HF0.o.x;rw[HM.o] at hfew HZ;have hm0:0<m:=(by rw[<-HM.o,hargs];simp);have HA0:=aB (show args[0]'(by rw[HM.o];exact hm0)=y from by simp[hargs]);have hm0':(0:Int)<(m:Int):=(by omega);have g1:(k==1)=false:=(by rw[hk];rfl);have g2:(k==2)=false:=(by rw[hk];rfl);have g5:(k==5)=true:=(by rw[hk];rfl);clear hk hargs e0 e1 e2 e3 e4 e5 e6 e7 e8;obtain⟨e0,-,-,-,-,-,-,-,-⟩:=nine HF0.o.x;obtain⟨q,hq⟩:∃q,rows.length=q:=⟨_,rfl⟩
 have HQ:=aB hq;rw[hq] at hrows hrc HLF HZ⊢;clear hq;go_enter Tryz.func44,Tryz.ntmps44;go_wp2_with fail;clear e0;go_loopw [7,8] (fun sv i wr=>∃(j:Nat) (v0:Value) (acc:List Vl),v0=sv/\j<=q/\i= .int .i64 (j:Int)/\acc.length=j/\Hid (acc=((rows.map fr).take j).map (·.1))/\Hid (∀z∈(rows.map fr).take j,z.2=0)/\Hid (wr.ownsRow (W.heap.size+2) 26 3 v0 acc.length (acc.flatMap cells3))/\Hid (WkF (cellsB k t v1 v2 v3 p o n (.slice a m cap)) W wr)) (fun _ i _=>q-(intOf i).toNat)
 case atStart=>exact⟨0,_,[],rfl,dL _,rfl,rfl,rfl,(fun z hz=>by cases hz),d2l _ _ _ _,HF0.o⟩
 case round=>
  obtain⟨j,v0,acc,rfl,hj,rfl,hal,HA,HOK,HO,HF⟩:=hrel;obtain⟨a0,-,-,-,-,-,-,a7,a8⟩:=nine HF.o.x;by_cases hlt:j<q
  ·have hjr:j<rows.length:=by rw[HQ.o];exact hlt
   obtain⟨rb,ro,rfl⟩:=HRA.o (by omega);obtain⟨b,off,s,rfl,-,hbl,h9,hr⟩:=HC.o 0 (by rw[HM.o];exact hm0);rw[HA0.o] at h9 hr;have HFY:=aB (HFF.o j hjr rb ro rfl);have HJ:=aB (show(rows.map fr)[j]'(by rw[HLF.o];exact hlt)=fr rows[j] from by simp);have HSN:=aB (show((rows.map fr).take (j+1)).map (·.1)=((rows.map fr).take j).map (·.1)++[(fr rows[j]).1] from by
    rw[takeD_snoc (rows.map fr) (by rw[HLF.o];exact hlt),kW,List.getElem_map];rfl)
   have HBAD:=aB (fun h=>seq_bad (l:=rows.map fr) (j:=j) (by rw[HLF.o];exact hlt) HOK.o h);rw[HJ.o] at HBAD;have HGO:=aB (fun(h:(fr rows[j]).2=0)=>(show ∀z∈(rows.map fr).take (j+1),z.2=0 from fun z hz=>by
    rw[takeD_snoc (rows.map fr) (by rw[HLF.o];exact hlt)] at hz;rcases iX.1 hz with hz|hz
    ·exact HOK.o z hz
    ·rw[gQ.1 hz,List.getElem_map];exact h))
   have HZY:=aB (HZE.o rows[j]);have HRD:=aB (hr.bl HF.o.bl);have H9:=aB (h9.keep (HF.o.bl.block b hbl));clear h9 hr HJ;generalize rows[j]'hjr=row at *;generalize hfy:fr row=ry at *;obtain⟨⟨r1,r2,r3⟩,c⟩:=ry;obtain⟨k',t',⟨v1',v2',v3'⟩,pt',o',nm',args'⟩:=y;have HCL:=aB (fun(w:World) (hb:Bl wr w)=>HFY.o w (BdV k' t' (v1',v2',v3') pt' o' nm' s) (HF.o.bl.call hb) ⟨s,rfl,HRD.o.bl hb⟩);simp only[Nat.zero_mul,Nat.add_zero] at H9;have hlt':(j:Int)<(q:Int):=(by omega);have hj1:(j:Int)+1<=(rc:Int):=(by omega);have hwj:IntKind.i64.wrap ((j:Int)+1)=(j:Int)+1:=wrap_fit (by unfold fits64;rw[aQ];simp only[decide_eq_true_eq];omega);have hj2:((j:Int)+1).toNat=j+1:=(by omega);have hj3:0<=(j:Int)+1:=(by omega);have hj5:¬rc=j:=(by omega);clear HFY hfy
   go_upto_region 13 with fail
   go_cut [9,10] from 36 to 68 (fun p9 e10 wc=>∃A:Nat,p9= .pointer (some ⟨A,0,none⟩)/\e10= .int .i64 c/\Hid (Bl wr wc)/\Hid (wc.heap[A]?=some (.cells #[.int .i64 r1,.int .i64 r2,S r3] 26 (0,0))))
   case first=>
    refine wp_region_noPanic (bM (fun B=>Bl wr B) ((.take 0 (.take 1 (.take 2 (.take 3 (.take 4 (.take 5 (.take 6 (.take 7 (.take 8 (.two 9 13 (.take 10 (.take 11 (.take 12 (.one 13 (.one 14 (.take 15 .done)))))) (.one 9 (.take 10 (.take 11 (.take 12 (.one 14 (.take 15 .done))))))))))))))))) (by kernel_rfl) (by kernel_rfl) (by kernel_rfl) (fun _ _ _ _ _ h=>h) (((Bl.refl wr).drew)) ?_);intro wd HWD hY;iterate 9 (refine aI rfl (by rfl) (by intro w hSw;(try dsimp only at hSw);obtain⟨e0,e1,e2,e3,e4,e5,e6,e7,e8⟩:=(H9.o.keep (hSw.block b (by have:=(aC.1 HF.o.r).1;have:=HF.o.bl.size;omega))).nine;simp only[Bd.k,Bd.t,Bd.v,Bd.p,Bd.o,Bd.n] at e0 e1 e2 e3 e4 e5 e6 e7;have a8':=Bl.cell hSw a8;go_simp;(try(first |with_reducible rfl|rfl))) ?_;(try simp only[aK,aA,aD,aF]))
    refine sZ ?_ ?_
    focus
     refine aL rfl (fun K hK=>?_);go_simp;(refine(HCL.o _ hY).mono ?_;rintro e w9 ⟨rfl,hb9⟩);go_wp2_with fail;refine hK.o _ _ ((by first |exact hY.call hb9|exact hB14.bl hY (by have h:=HSZ.o;(try simp only[aR] at h);first |exact h|omega))) ?_;clear hY hK K;intro hY;iterate 3 (refine aI rfl (by rfl) (by intro w hSw;(try dsimp only at hSw);obtain⟨e0,e1,e2,e3,e4,e5,e6,e7,e8⟩:=(H9.o.keep (hSw.block b (by have:=(aC.1 HF.o.r).1;have:=HF.o.bl.size;omega))).nine;simp only[Bd.k,Bd.t,Bd.v,Bd.p,Bd.o,Bd.n] at e0 e1 e2 e3 e4 e5 e6 e7;have a8':=Bl.cell hSw a8;go_simp;(try(first |with_reducible rfl|rfl))) ?_;(try simp only[aK,aA,aD,aF]))
     have HSZ:=aB hY.size;refine aL rfl (fun K hK=>?_);go_simp;refine hK.o _ _ ((hY.call ((Bl.refl _).alloc _))) ?_;clear hY hK K;intro hY;have HA13:=aB (new_at hY);refine aL rfl (fun K hK=>?_);rw[if_pos (by rfl)];refine bC rfl rfl rfl ((cells3 (r1,r2,r3))) (by have h:=HA13.o;first |exact h|exact keep_b h hb9) rfl rfl vlInfo rfl ?_;intro w14 hB14 hX14;refine hK.o _ _ ((by first |exact hY.call hB149|exact hB14.bl hY (by have h:=HSZ.o;(try simp only[aR] at h);first |exact h|omega))) ?_;clear hY hK K;intro hY;(try simp only[aK])
     refine aI rfl (by rfl) (by intro w hSw;(try dsimp only at hSw);obtain⟨e0,e1,e2,e3,e4,e5,e6,e7,e8⟩:=(H9.o.keep (hSw.block b (by have:=(aC.1 HF.o.r).1;have:=HF.o.bl.size;omega))).nine;simp only[Bd.k,Bd.t,Bd.v,Bd.p,Bd.o,Bd.n] at e0 e1 e2 e3 e4 e5 e6 e7;have a8':=Bl.cell hSw a8;go_simp;(try(first |with_reducible rfl|rfl))) ?_;(try simp only[aK,aA,aD,aF])
     refine fO (bF ?_);go_wp2
     go_meet
     case rel=>exact⟨_,rfl,rfl,hY,hX14⟩
    rotate_left 1
    focus
     have HSZ:=aB hY.size;refine aL rfl (fun K hK=>?_);go_simp;refine hK.o _ _ ((hY.call ((Bl.refl _).alloc _))) ?_;clear hY hK K;intro hY;have HA13:=aB (new_at hY);refine aL rfl (fun K hK=>?_);go_simp;(refine(HCL.o _ hY).mono ?_;rintro e w9 ⟨rfl,hb9⟩);go_wp2_with fail;refine hK.o _ _ ((by first |exact hY.call hb9|exact hB14.bl hY (by have h:=HSZ.o;(try simp only[aR] at h);first |exact h|omega))) ?_;clear hY hK K;intro hY;iterate 3 (refine aI rfl (by rfl) (by intro w hSw;(try dsimp only at hSw);obtain⟨e0,e1,e2,e3,e4,e5,e6,e7,e8⟩:=(H9.o.keep (hSw.block b (by have:=(aC.1 HF.o.r).1;have:=HF.o.bl.size;omega))).nine;simp only[Bd.k,Bd.t,Bd.v,Bd.p,Bd.o,Bd.n] at e0 e1 e2 e3 e4 e5 e6 e7;have a8':=Bl.cell hSw a8;go_simp;(try(first |with_reducible rfl|rfl))) ?_;(try simp only[aK,aA,aD,aF]))
     refine aL rfl (fun K hK=>?_);rw[if_pos (by rfl)];refine bC rfl rfl rfl ((cells3 (r1,r2,r3))) (by have h:=HA13.o;first |exact h|exact keep_b h hb9) rfl rfl vlInfo rfl ?_;intro w14 hB14 hX14;refine hK.o _ _ ((by first |exact hY.call hB149|exact hB14.bl hY (by have h:=HSZ.o;(try simp only[aR] at h);first |exact h|omega))) ?_;clear hY hK K;intro hY;(try simp only[aK])
     refine aI rfl (by rfl) (by intro w hSw;(try dsimp only at hSw);obtain⟨e0,e1,e2,e3,e4,e5,e6,e7,e8⟩:=(H9.o.keep (hSw.block b (by have:=(aC.1 HF.o.r).1;have:=HF.o.bl.size;omega))).nine;simp only[Bd.k,Bd.t,Bd.v,Bd.p,Bd.o,Bd.n] at e0 e1 e2 e3 e4 e5 e6 e7;have a8':=Bl.cell hSw a8;go_simp;(try(first |with_reducible rfl|rfl))) ?_;(try simp only[aK,aA,aD,aF])
     refine fO (bF ?_);go_wp2
     go_meet
     case rel=>exact⟨_,rfl,rfl,hY,hX14⟩
   case rest=>
   obtain⟨A,rfl,rfl,hbw,HXA⟩:=hcut;have HFU:=aB (HF.o.call hbw.o);have HO1:=aB (gY hbw.o HO.o);have hlow:=aB HO1.o.lt;have hszu:W.heap.size+2<=wc.heap.size:=(by have:=(aC.1 HFU.o.r).1;omega);obtain⟨q0,q1,q2⟩:=three3 HXA.o;clear hbw HXA hwj hj2 hj3 hj5 hj1 a0 a7 a8 H9 HCL;by_cases hc:c=0
   ·have HG2:=aB (HGO.o hc);subst hc;clear HGO HBAD HZY;go_wp2_with (first |(refine d8l (vs:=[.int .i64 r1,.int .i64 r2,S r3]) rfl (t:=47) (y:= .tmp 66) rfl Tryz.underlying47 rfl vl1 rfl ?_)|(at_builtin;refine wpList_append_row rfl (.tmp 65) (.tmp 67) rfl vlFull Tryz.underlying47 rfl (by decide) (by decide) (W.heap.size+2) _ acc.length _ rfl (gY ((Bl.refl _).alloc _) HO1.o) wc.heap.size [.int .i64 r1,.int .i64 r2,S r3] rfl (aN wc _) rfl rfl (by omega) (by rw[aR];omega) ?_))
    intro v2' w2 hown2 hg2 _;have hkeep:∀i,i<W.heap.size+2->w2.heap[i]?=wc.heap[i]?:=fun i hi=>(hg2.block i (by simp;omega) (fun e=>by have:=(hlow.o i e.symm).1;omega)).trans (aW wc _ (by omega));have HF2:=aB (show WkF (cellsB k t v1 v2 v3 p o n (.slice (some ⟨b,off,none⟩) m cap)) W w2 from⟨(hkeep _ (by omega)).trans HFU.o.x,(hkeep _ (by omega)).trans HFU.o.r,iL (HFU.o.bl.alloc (.cells #[.int .i64 r1,.int .i64 r2,S r3] 26)) hg2 (by simp;omega) (fun i hi=>by have:=(hlow.o i hi).1;omega)⟩);have HO2:=aB (show w2.ownsRow (W.heap.size+2) 26 3 v2' (acc++[(r1,r2,r3)]).length ((acc++[(r1,r2,r3)]).flatMap cells3) from by rw[bD,List.flatMap_append,hal];exact hown2);have HA2:=aB (show acc++[(r1,r2,r3)]=((rows.map fr).take (j+1)).map (·.1) from by rw[HSN.o,HA.o]);clear hown2 hg2 hkeep q0 q1 q2;go_wp2;go_roundw
    case rel=>exact⟨j+1,_,acc++[(r1,r2,r3)],rfl,by omega,by go_num,by rw[bD,hal];rfl,HA2.o,HG2.o,HO2.o,HF2.o⟩
    case measure=>simp[intOf];omega
   ·have HB:=aB (HBAD.o hc);have gc:(c != 0)=true:=(by simpa using hc);have HZ2:Hid (Z=(zVl,c)):=(by show _=_;rw[<-HZ.o];unfold overE;rw[HB.o];exact if_pos hc);have HZV:=HZY.o hc;simp only[zVl,Prod.mk.injEq] at HZV;obtain⟨rfl,rfl,rfl⟩:=HZV;clear hc HGO HBAD HZY;go_wp2_with (refine bA (g:=W.heap.size+1) (i:=0) rfl rfl rfl rfl (cells3 (0,0,[])) (HFU.o).r rfl rfl vlInfo rfl ?_)
    intro w9 hB9 hX9;obtain⟨q0,q1,q2⟩:=three3 hX9;go_wp2;refine bodyPost_ret (v:= .tuple #[VlV (0,0,[]),.int .i64 c]) (by simp[results,Tryz.results44,go_sem,q0,q1,q2]) rfl ⟨?_,hB9.bl (HFU.o).bl (by omega)⟩;rw[HZ2.o];rfl
  ·obtain rfl:q=j:=by omega
   have HSQ:=aB (show seqV (rows.map fr)=(acc,0) from by
    have h:=HOK.o;rw[jS (by rw[HLF.o];exact aH _)] at h;have h2:=HA.o;rw[jS (by rw[HLF.o];exact aH _)] at h2;rw[seq_ok h,h2])
   have HV:=aB (own_vals HO.o);have HIA:=aB (show ∀v∈acc,Int2 v from fun v hv=>HIN.o (by rw[HSQ.o]) v (by rw[HSQ.o];exact hv));obtain⟨va,vc,hva,-⟩:=HV.o.shape;subst hva;have hge:¬((q:Int)<(q:Int)):=(by omega);have HZ2:Hid (Z=summedV n acc q m):=(by show _=_;rw[<-HZ.o,HSQ.o];unfold overE;exact if_neg (fun h=>h rfl));have HSU:=aB (wsummed_any HNF.o (show acc.length<=1000000 by omega) HIA.o q m (by omega) wr va vc HV.o);obtain⟨⟨⟨r1,r2,r3⟩,c⟩,hR⟩:∃R,summedV n acc q m=R:=⟨_,rfl⟩
   rw[hR] at HZ2 HSU;rw[hal] at HSU;clear HO HA HOK HFF HC HZ HSQ HIA HV hR HRA HIN HZE HNF;go_wp2_with fail;refine HSU.o.mono ?_;rintro e w1 ⟨rfl,hb1⟩;have HF1:=aB (HF.o.call hb1);clear hb1 a0 a7 a8;go_wp2_with (refine bA (g:=W.heap.size+1) (i:=0) rfl rfl rfl rfl (cells3 (r1,r2,r3)) (HF1.o).r rfl rfl vlInfo rfl ?_)
   intro w9 hB9 hX9;obtain⟨q0,q1,q2⟩:=three3 hX9;go_wp2;refine bodyPost_ret (v:= .tuple #[VlV (r1,r2,r3),.int .i64 c]) (by simp[results,Tryz.results44,go_sem,q0,q1,q2]) rfl ⟨?_,hB9.bl (HF1.o).bl (by omega)⟩;rw[HZ2.o]
end
end Go.Proofs.YtdbkbfkpmnpldaaGreatDoor
