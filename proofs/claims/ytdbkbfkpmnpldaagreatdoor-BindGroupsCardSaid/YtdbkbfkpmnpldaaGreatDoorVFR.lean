/- Texts beside the shared ones. -/
import Derived.Test.YtdbkbfkpmnpldaaGreatDoorVX0
import Derived.Test.YtdbkbfkpmnpldaaGreatDoorVFP
namespace Go.Proofs.YtdbkbfkpmnpldaaGreatDoor
open Go.RowKit
open _root_.Bool renaming and_eq_true->aQ
open _root_.Go.Lib renaming hid->aB
open _root_.List renaming mem_singleton->gQ
open _root_.Nat renaming le_refl->aH
open _root_.Go.Region renaming wanted->jG
set_option maxRecDepth 100000
set_option maxHeartbeats 8000000
section
theorem one_row20{W:World}{g:Nat}{s:Value}{r:List Vl}{t:TypeId}(h:W.heap[g]?=some (.cells #[s] t (0,0)))(hr:ReadsVl (fun _=>True) W s r):ReadsRw (fun _=>True) W (.slice (some ⟨g,0,none⟩) 1 1) [r]:=one_row h hr
theorem int2_z:Int2 zVl:=⟨by unfold I64 zVl;decide,by unfold I64 zVl;decide⟩
theorem eval_int{b:Bd}{r:List Vl}(hi:i64D b)(hr:∀v∈r,IntV v):Int2 (evalQ b r).1:=by
 unfold evalQ;split
 ·exact int2_z
 ·rename_i h1;split
  ·exact int2_z
  ·rename_i h2;have h1:(rightD r.length b&&rowB r&& !sumsD b)=true:=by
    cases hq:(rightD r.length b&&rowB r&& !sumsD b)
    ·exact absurd hq h1
    ·rfl
   simp only[aQ] at h1;have h3:(workD [r] b).2=0:=(by simpa using h2);exact⟨ok_kind (work_ok r.length b [r] (fun q hq=>by rw[gQ.1 hq];exact h1.1.2) h1.1.1 h3),int_work b [r] (by simp) (fun q hq=>by rw[gQ.1 hq];exact hr) (i64D_ints hi)⟩
theorem wEval_any(b:Bd)(row:List Vl)(hp:partsD b<=999999)(hi:i64D b)(hl:row.length<=999999)(hint:∀v∈row,Int2 v)(W:World)(v:Value)(ra:Option Addr)(rc:Nat)(hv:ReadsD W b v)(hr:ReadsVl (fun _=>True) W (.slice ra row.length rc) row):
  Calls Tryz.prog 20 #[v,.slice ra row.length rc] W fun e w'=>e=VE (evalQ b row)/\Bl W w':=by
 obtain⟨Z,HZ⟩:∃Z,Hid (evalQ b row=Z):=⟨_,rfl⟩
 rw[HZ.o];have HRI:Hid (∀W',Bl W W'->Calls Tryz.prog 10 #[v,.int .i64 (row.length:Int)] W' fun e w'=>e= .returned (.bool (rightD row.length b))/\Bl W' w'):=fun W' hb=>wRight_any row.length 1000000 b (by omega) (aH _) hi W' v (hv.bl hb);have HSM:Hid (∀W',Bl W W'->Calls Tryz.prog 29 #[v] W' fun e w'=>e= .returned (.bool (sumsD b))/\Bl W' w'):=fun W' hb=>wSums_any 1000000 b (by omega) (aH _) W' v (hv.bl hb);have HRW:Hid (∀W',Bl W W'->Calls Tryz.prog 43 #[.slice ra row.length rc] W' fun e w'=>e= .returned (.bool (rowB row))/\Bl W' w'):=fun W' hb=>wrow_any (by omega) (fun v hv=>(hint v hv).1) W' ra rc (hr.bl hb);have HWK:Hid (rightD row.length b=true->rowB row=true->∀W' g,Bl W W'->W'.heap[g]?=some (.cells #[.slice ra row.length rc] 47 (0,0))->Calls Tryz.prog 44 #[v,.slice (some ⟨g,0,none⟩) 1 1] W' fun e w'=>e=VE ((workD [row] b).1,(workD [row] b).2)/\Bl W' w'):=fun h h2 W' g hb hg=>
  wwork_any row.length 999999 (aH _) b hp h hi [row] (by simp) (fun r hr=>by rw[gQ.1 hr]) (fun r hr=>by rw[gQ.1 hr];exact h2) (fun r hr v hv=>by rw[gQ.1 hr] at hv;exact(hint v hv).2) W' v _ _ (by simp) (hv.bl hb) (one_row20 hg (hr.bl hb))
 have HNO:=aB (fun h=>(HZ.o.symm.trans (eval_no (b:=b) (r:=row) h)));have HBD:=aB (fun h h2=>(HZ.o.symm.trans (eval_bad (b:=b) (r:=row) h h2)));have HYE:=aB (fun h (h2:(workD [row] b).2=0)=>(HZ.o.symm.trans ((eval_yes (b:=b) (r:=row) h h2).trans (show workD [row] b=((workD [row] b).1,(workD [row] b).2) from rfl))));generalize rightD row.length b=A at *;generalize sumsD b=Sm at *;generalize rowB row=R at *;generalize (workD [row] b).1=rv at *;generalize (workD [row] b).2=c at *;clear HZ hp hi hint hr;obtain⟨sv,rfl,hR⟩:=hv;obtain⟨a,cap,rfl,-⟩:=hR.shape;clear hR;obtain⟨k,t,⟨v1,v2,v3⟩,p,o,n,args⟩:=b;simp only[Bd.k,Bd.t,Bd.v,Bd.p,Bd.o,Bd.n,Bd.args] at *;generalize args.length=m at *;generalize row.length=q at *;have HF0:=aB (WkF.start (cellsB k t v1 v2 v3 p o n (.slice a m cap)) W);obtain⟨e0,e1,e2,e3,e4,e5,e6,e7,e8⟩:=nine HF0.o.x;cases A
 ·have HZ:=aB (HNO.o (by rfl));go_enter Tryz.func20,Tryz.ntmps20;go_wp2_with fail;refine(HRI.o _ HF0.o.bl).mono ?_;rintro e w1 ⟨rfl,hb1⟩;have HF1:=aB (HF0.o.call hb1);clear hb1 e0 e1 e2 e3 e4 e5 e6 e7 e8;go_wp2_with (refine bA (g:=W.heap.size+1) (i:=0) rfl rfl rfl rfl (cells3 zVl) (HF1.o).r rfl rfl vlInfo rfl ?_)
  intro w9 hB9 hX9;obtain⟨q0,q1,q2⟩:=three3 hX9;go_wp2;refine bodyPost_ret (v:= .tuple #[VlV zVl,.int .i64 2]) (by simp[results,Tryz.results20,go_sem,q0,q1,q2]) rfl ⟨?_,hB9.bl (HF1.o).bl (by omega)⟩;rw[HZ.o]
 ·cases R
  ·have HZ:=aB (HNO.o (by rfl));go_enter Tryz.func20,Tryz.ntmps20;go_wp2_with fail;refine(HRI.o _ HF0.o.bl).mono ?_;rintro e w1 ⟨rfl,hb1⟩;have HF1:=aB (HF0.o.call hb1);clear hb1 e0 e1 e2 e3 e4 e5 e6 e7 e8;go_wp2_with fail;refine(HRW.o _ HF1.o.bl).mono ?_;rintro e w2 ⟨rfl,hb2⟩;have HF2:=aB (HF1.o.call hb2);clear hb2;go_wp2_with (refine bA (g:=W.heap.size+1) (i:=0) rfl rfl rfl rfl (cells3 zVl) (HF2.o).r rfl rfl vlInfo rfl ?_)
   intro w9 hB9 hX9;obtain⟨q0,q1,q2⟩:=three3 hX9;go_wp2;refine bodyPost_ret (v:= .tuple #[VlV zVl,.int .i64 2]) (by simp[results,Tryz.results20,go_sem,q0,q1,q2]) rfl ⟨?_,hB9.bl (HF2.o).bl (by omega)⟩;rw[HZ.o]
  ·cases Sm;rotate_left
   ·have HZ:=aB (HNO.o (by rfl));go_enter Tryz.func20,Tryz.ntmps20;go_wp2_with fail;refine(HRI.o _ HF0.o.bl).mono ?_;rintro e w1 ⟨rfl,hb1⟩;have HF1:=aB (HF0.o.call hb1);clear hb1 e0 e1 e2 e3 e4 e5 e6 e7 e8;go_wp2_with fail;refine(HRW.o _ HF1.o.bl).mono ?_;rintro e w2 ⟨rfl,hb2⟩;have HF2:=aB (HF1.o.call hb2);clear hb2;go_wp2_with (refine wpList_load_rowG (by first |rfl|(simp[jG,yielded];done)|(simp[jG,yielded];omega)) 30 (.tmp 2) rfl W.heap.size rfl 30 _ (0,0) _ HF2.o.x Tryz.underlying30 rfl bdInfo ?_)
    refine(HSM.o _ HF2.o.bl).mono ?_;rintro e w3 ⟨rfl,hb3⟩;have HF3:=aB (HF2.o.call hb3);clear hb3;go_wp2_with (refine bA (g:=W.heap.size+1) (i:=0) rfl rfl rfl rfl (cells3 zVl) (HF3.o).r rfl rfl vlInfo rfl ?_)
    intro w9 hB9 hX9;obtain⟨q0,q1,q2⟩:=three3 hX9;go_wp2;refine bodyPost_ret (v:= .tuple #[VlV zVl,.int .i64 2]) (by simp[results,Tryz.results20,go_sem,q0,q1,q2]) rfl ⟨?_,hB9.bl (HF3.o).bl (by omega)⟩;rw[HZ.o]
   ·have HB3:=aB (HBD.o (by rfl));have HY3:=aB (HYE.o (by rfl));have HW3:=aB (HWK.o rfl rfl);obtain⟨r1,r2,r3⟩:=rv;clear HNO HBD HYE HWK;go_enter Tryz.func20,Tryz.ntmps20;go_wp2_with fail;refine(HRI.o _ HF0.o.bl).mono ?_;rintro e w1 ⟨rfl,hb1⟩;have HF1:=aB (HF0.o.call hb1);clear hb1 e0 e1 e2 e3 e4 e5 e6 e7 e8;go_wp2_with fail;refine(HRW.o _ HF1.o.bl).mono ?_;rintro e w2 ⟨rfl,hb2⟩;have HF2:=aB (HF1.o.call hb2);clear hb2;go_wp2_with (refine wpList_load_rowG (by first |rfl|(simp[jG,yielded];done)|(simp[jG,yielded];omega)) 30 (.tmp 2) rfl W.heap.size rfl 30 _ (0,0) _ HF2.o.x Tryz.underlying30 rfl bdInfo ?_)
    refine(HSM.o _ HF2.o.bl).mono ?_;rintro e w3 ⟨rfl,hb3⟩;have HF3:=aB (HF2.o.call hb3);clear hb3;obtain⟨g0,g1,g2,g3,g4,g5,g6,g7,g8⟩:=nine HF3.o.x;have HF4:=aB (HF3.o.call ((Bl.refl w3).alloc (.cells #[.slice ra q rc] 47)));have HG4:=aB (aN w3 (.cells #[.slice ra q rc] 47));go_wp2_with fail;refine(HW3.o _ w3.heap.size HF4.o.bl HG4.o).mono ?_;rintro e w5 ⟨rfl,hb5⟩;have HF6:=aB ((HF4.o.call hb5).call ((Bl.refl w5).alloc (.cells #[.int .i64 r1,.int .i64 r2,S r3] 26)));have HX6:=aB (aN w5 (.cells #[.int .i64 r1,.int .i64 r2,S r3] 26));clear g0 g1 g2 g3 g4 g5 g6 g7 g8 hb5;obtain⟨n5,hn5⟩:∃n5,w5.heap.size=n5:=⟨_,rfl⟩
    go_upto_region 4 with fail
    obtain⟨u,hu⟩:∃u,w5.alloc (.cells #[.int .i64 r1,.int .i64 r2,S r3] 26)=u:=⟨_,rfl⟩
    change Code.wp _ _ _ _ (w5.alloc (.cells #[.int .i64 r1,.int .i64 r2,S r3] 26));rw[hu] at HF6 HX6⊢
    try rw[hn5] at HX6
    try rw[hn5]
    obtain⟨q0,q1,q2⟩:=three3 HX6.o;clear hu hn5;by_cases hc:c=0
    ·have HZ:=aB (HY3.o hc);subst hc;go_wp2_with (refine bA (g:=W.heap.size+1) (i:=0) rfl rfl rfl rfl (cells3 (r1,r2,r3)) (HF6.o).r rfl rfl vlInfo rfl ?_)
     intro w9 hB9 hX9;obtain⟨q0,q1,q2⟩:=three3 hX9;go_wp2;refine bodyPost_ret (v:= .tuple #[VlV (r1,r2,r3),.int .i64 0]) (by simp[results,Tryz.results20,go_sem,q0,q1,q2]) rfl ⟨?_,hB9.bl (HF6.o).bl (by omega)⟩;rw[HZ.o]
    ·have HZ:=aB (HB3.o hc);have gc:(c != 0)=true:=(by simpa using hc);clear hc;go_wp2_with (refine bA (g:=W.heap.size+1) (i:=0) rfl rfl rfl rfl (cells3 zVl) (HF6.o).r rfl rfl vlInfo rfl ?_)
     intro w9 hB9 hX9;obtain⟨q0,q1,q2⟩:=three3 hX9;go_wp2;refine bodyPost_ret (v:= .tuple #[VlV zVl,.int .i64 c]) (by simp[results,Tryz.results20,go_sem,q0,q1,q2]) rfl ⟨?_,hB9.bl (HF6.o).bl (by omega)⟩;rw[HZ.o]
theorem wTruth_any(b:Bd)(row:List Vl)(hp:partsD b<=999999)(hi:i64D b)(hl:row.length<=999999)(hint:∀v∈row,Int2 v)(W:World)(v:Value)(ra:Option Addr)(rc:Nat)(hv:ReadsD W b v)(hr:ReadsVl (fun _=>True) W (.slice ra row.length rc) row):
  Calls Tryz.prog 22 #[v,.slice ra row.length rc] W fun e w'=>e= .returned (.tuple #[.int .i64 (truthQ b row).1,.int .i64 (truthQ b row).2])/\Bl W w':=by
 obtain⟨Z,HZ⟩:∃Z,Hid (truthQ b row=Z):=⟨_,rfl⟩
 rw[HZ.o];have HEV:Hid (∀W',Bl W W'->Calls Tryz.prog 20 #[v,.slice ra row.length rc] W' fun e w'=>e=VE (evalQ b row)/\Bl W' w'):=fun W' hb=>wEval_any b row hp hi hl hint W' v ra rc (hv.bl hb) (hr.bl hb);have HIE:=aB (eval_int (b:=b) (r:=row) hi (fun v hv=>(hint v hv).2));unfold truthQ at HZ;generalize evalQ b row=E at *;obtain⟨⟨r1,r2,r3⟩,c⟩:=E;simp only at HZ HIE;clear hp hi hint hr;obtain⟨sv,rfl,hR⟩:=hv;obtain⟨a,cap,rfl,-⟩:=hR.shape;clear hR;obtain⟨k,t,⟨v1,v2,v3⟩,p,o,n,args⟩:=b;simp only[Bd.k,Bd.t,Bd.v,Bd.p,Bd.o,Bd.n,Bd.args] at *;generalize args.length=m at *;generalize row.length=q at *;have HX0:=aB (aN W (.cells (cellsB k t v1 v2 v3 p o n (.slice a m cap)) 30));have HB0:=aB ((Bl.refl W).alloc (.cells (cellsB k t v1 v2 v3 p o n (.slice a m cap)) 30));obtain⟨e0,e1,e2,e3,e4,e5,e6,e7,e8⟩:=nine HX0.o;go_enter Tryz.func22,Tryz.ntmps22;go_wp2_with fail;refine(HEV.o _ HB0.o).mono ?_;rintro e w5 ⟨rfl,hb5⟩;have HB6:=aB ((HB0.o.call hb5).call ((Bl.refl w5).alloc (.cells #[.int .i64 r1,.int .i64 r2,S r3] 26)));have HX6:=aB (aN w5 (.cells #[.int .i64 r1,.int .i64 r2,S r3] 26));clear e0 e1 e2 e3 e4 e5 e6 e7 e8 hb5;obtain⟨n5,hn5⟩:∃n5,w5.heap.size=n5:=⟨_,rfl⟩
 go_upto_region 2 with fail
 obtain⟨u,hu⟩:∃u,w5.alloc (.cells #[.int .i64 r1,.int .i64 r2,S r3] 26)=u:=⟨_,rfl⟩
 change Code.wp _ _ _ _ (w5.alloc (.cells #[.int .i64 r1,.int .i64 r2,S r3] 26));rw[hu] at HB6 HX6⊢
 try rw[hn5] at HX6
 try rw[hn5]
 obtain⟨q0,q1,q2⟩:=three3 HX6.o;clear hu hn5;by_cases hc:c=0
 ·have HZ2:=aB (HZ.o.symm.trans (if_neg (fun h=>h hc)));subst hc;by_cases h1:1<r1
  ·have HZ3:=aB (HZ2.o.trans (if_pos h1));clear HZ HZ2;go_wp2;go_ret2;exact⟨by rw[HZ3.o]<;>rfl,HB6.o⟩
  ·have HZ3:=aB (HZ2.o.trans (if_neg h1));have HKN:=aB (fun w=>rKnown2 (r1,r2,r3) HIE.o w);clear HZ HZ2;go_wp2_with fail;refine(HKN.o _).mono ?_;rintro e w7 ⟨rfl,hb7⟩;go_wp2;go_ret2;exact⟨by rw[HZ3.o]<;>rfl,HB6.o.call hb7⟩
 ·have HZ2:=aB (HZ.o.symm.trans (if_pos hc));have gc:(c != 0)=true:=(by simpa using hc);clear hc HZ;go_wp2;go_ret2;exact⟨by rw[HZ2.o]<;>rfl,HB6.o⟩
end
end Go.Proofs.YtdbkbfkpmnpldaaGreatDoor
