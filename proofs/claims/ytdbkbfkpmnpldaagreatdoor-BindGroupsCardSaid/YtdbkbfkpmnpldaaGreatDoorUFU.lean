/- Texts beside the shared ones. -/
import Derived.Test.YtdbkbfkpmnpldaaGreatDoorNS
import Derived.Test.YtdbkbfkpmnpldaaGreatDoorNA
import Derived.Test.YtdbkbfkpmnpldaaGreatDoorNB
import Derived.Test.YtdbkbfkpmnpldaaGreatDoorNC
import Derived.Test.YtdbkbfkpmnpldaaGreatDoorNX
import Derived.Test.YtdbkbfkpmnpldaaGreatDoorNI
import Derived.Test.YtdbkbfkpmnpldaaGreatDoorND
import Derived.Test.YtdbkbfkpmnpldaaGreatDoorNE
import Derived.Test.YtdbkbfkpmnpldaaGreatDoorWXS
import Derived.Test.YtdbkbfkpmnpldaaGreatDoorWX0
import Derived.Test.YtdbkbfkpmnpldaaGreatDoorWM1
import Derived.Test.YtdbkbfkpmnpldaaGreatDoorWM2
import Derived.Test.YtdbkbfkpmnpldaaGreatDoorWCA
import Derived.Test.YtdbkbfkpmnpldaaGreatDoorWM3
import Derived.Test.YtdbkbfkpmnpldaaGreatDoorWM4
import Derived.Test.YtdbkbfkpmnpldaaGreatDoorWM5
import Derived.Test.YtdbkbfkpmnpldaaGreatDoorWM6
import Derived.Test.YtdbkbfkpmnpldaaGreatDoorWM7
import Derived.Test.YtdbkbfkpmnpldaaGreatDoorWM8
import Derived.Test.YtdbkbfkpmnpldaaGreatDoorWM9
import Derived.Test.YtdbkbfkpmnpldaaGreatDoorWFA
import Derived.Test.YtdbkbfkpmnpldaaGreatDoorWFB
import Derived.Test.YtdbkbfkpmnpldaaGreatDoorWFC
import Derived.Test.YtdbkbfkpmnpldaaGreatDoorWOB
import Derived.Test.YtdbkbfkpmnpldaaGreatDoorVX0
import Derived.Test.YtdbkbfkpmnpldaaGreatDoorVBY
import Derived.Test.YtdbkbfkpmnpldaaGreatDoorVOV
import Derived.Test.YtdbkbfkpmnpldaaGreatDoorVFD
import Derived.Test.YtdbkbfkpmnpldaaGreatDoorVFE
import Derived.Test.YtdbkbfkpmnpldaaGreatDoorVFG
import Derived.Test.YtdbkbfkpmnpldaaGreatDoorVFI
import Derived.Test.YtdbkbfkpmnpldaaGreatDoorVFJ
import Derived.Test.YtdbkbfkpmnpldaaGreatDoorVFH
import Derived.Test.YtdbkbfkpmnpldaaGreatDoorVFO
import Derived.Test.YtdbkbfkpmnpldaaGreatDoorVFP
import Derived.Test.YtdbkbfkpmnpldaaGreatDoorVFR
import Derived.Test.YtdbkbfkpmnpldaaGreatDoorVFS
import Derived.Test.YtdbkbfkpmnpldaaGreatDoorVFT
namespace Go.Proofs.YtdbkbfkpmnpldaaGreatDoor
open Go.RowKit
open _root_.Go.Act renaming put->aK
open _root_.Bool renaming false_and->pK,true_and->rC
open _root_.Go.Lib renaming hid->aB
open _root_.List renaming all_eq_true->jA,getElem?_eq_getElem->aP,getElem_mem->dS,setIfInBounds_toArray->aA,set_cons_succ->aF,set_cons_zero->aD,take_of_length_le->jS
open _root_.Nat renaming le_refl->aH,zero_le->dL
open NoPanic renaming normal->bF
set_option maxRecDepth 100000
set_option maxHeartbeats 16000000
section
theorem int2_rows{rows:List (List Vl)}(h:rowsB rows=true){r:List Vl}(hr:r∈rows):(r.length:Int)=widthR rows/\rowB r=true:=by
 rw[rows_good] at h;have:=jA.1 h r hr;simpa[goodR] using this
theorem wGroup_any(b:Bd)(rows:List (List Vl))(hp:partsD b<=999999)(hi:i64D b)(hm:rows.length<=999999)(hrl:∀r∈rows,r.length<=999999)(hint:∀r∈rows,∀v∈r,Int2 v)(W:World)(v:Value)(ra:Option Addr)(rc:Nat)(hrc:rows.length<=rc)(hv:ReadsD W b v)(hr:ReadsRw (fun _=>True) W (.slice ra rows.length rc) rows):
  Calls Tryz.prog 17 #[v,.slice ra rows.length rc] W fun e w'=>e=VE (groupQ b rows)/\Bl W w':=by
 obtain⟨Z,HZ⟩:∃Z,Hid (groupQ b rows=Z):=⟨_,rfl⟩
 rw[HZ.o];have HRI:Hid (∀W',Bl W W'->Calls Tryz.prog 10 #[v,.int .i64 (widthR rows)] W' fun e w'=>e= .returned (.bool (rightD (widthR rows) b))/\Bl W' w'):=fun W' hb=>wRight_any (widthR rows) 1000000 b (by omega) (aH _) hi W' v (hv.bl hb);have HWK:Hid (rightD (widthR rows) b=true->rowsB rows=true->∀W',Bl W W'->Calls Tryz.prog 44 #[v,.slice ra rows.length rc] W' fun e w'=>e=VE ((workD rows b).1,(workD rows b).2)/\Bl W' w'):=fun h h2 W' hb=>
  wwork_any (widthR rows) 999999 (aH _) b hp h hi rows hm (fun r hr=>(int2_rows h2 hr).1) (fun r hr=>(int2_rows h2 hr).2) (fun r hr v hv=>(hint r hr v hv).2) W' v ra rc hrc (hv.bl hb) (hr.bl hb)
 have HNO:=aB (fun h=>(HZ.o.symm.trans (group_no (b:=b) (rows:=rows) h)));have HBD:=aB (fun h h2=>(HZ.o.symm.trans (e3w (b:=b) (rows:=rows) h h2)));have HYE:=aB (fun h (h2:(workD rows b).2=0)=>(HZ.o.symm.trans ((group_yes (b:=b) (rows:=rows) h h2).trans (show workD rows b=((workD rows b).1,(workD rows b).2) from rfl))));have HRL:=aB hrl;have HINT:=aB hint;have HWA:=aB (fun h=>width_at (rows:=rows) h);have HWT:=aB (fun(h:0<rows.length) j=>width_take (rows:=rows) h j);have HGB:=aB (fun(j:Nat) (hj:j<rows.length) h=>rows_bad (rows:=rows) hj h);obtain⟨a',cap',e,hc⟩:=hr;obtain⟨rfl,rfl⟩:ra=a'/\rc=cap':=(by simpa using e);have HC:=aB (fun(j:Nat) (hj:j<rows.length)=>hc j _ (aP hj));have HGD:Hid (rowsB rows=rows.all (goodR rows)):=rows_good rows;have HG1:Hid (∀r,goodR rows r=(decide ((r.length:Int)=widthR rows)&&rowB r)):=fun r=>rfl;generalize rightD (widthR rows) b=A at *;generalize (workD rows b).1=rv at *;generalize (workD rows b).2=c at *;clear HZ hp hi hint hrl hc e;obtain⟨sv,rfl,hR⟩:=hv;obtain⟨a,cap,rfl,-⟩:=hR.shape;clear hR;obtain⟨k,t,⟨v1,v2,v3⟩,p,o,n,args⟩:=b;simp only[Bd.k,Bd.t,Bd.v,Bd.p,Bd.o,Bd.n,Bd.args] at *;generalize args.length=m at *;obtain⟨q,hq⟩:∃q,rows.length=q:=⟨_,rfl⟩
 have HQ:=aB hq;rw[hq] at hm hrc HWK⊢;clear hq;have HF0:=aB (WkF.start (cellsB k t v1 v2 v3 p o n (.slice a m cap)) W);go_enter Tryz.func17,Tryz.ntmps17;go_wp2_with fail;go_loopw [6,7] (fun wd i wr=>∃(j:Nat) (x:Int),j<=q/\wd= .int .i64 x/\i= .int .i64 (j:Int)/\Hid (x=widthR (rows.take j))/\Hid (rowsB rows=(rows.drop j).all (goodR rows))/\Hid (WkF (cellsB k t v1 v2 v3 p o n (.slice a m cap)) W wr)) (fun _ i _=>q-(intOf i).toNat)
 case atStart=>exact⟨0,_,dL _,rfl,rfl,rfl,HGD.o,HF0.o⟩
 case round=>
  obtain⟨j,x,hj,rfl,rfl,HX,HD,HF⟩:=hrel;by_cases hlt:j<q
  ·have hjr:j<rows.length:=by rw[HQ.o];exact hlt
   have h0r:0<rows.length:=(by omega);obtain⟨b,off,s,rfl,-,hbl,hs,hv⟩:=HC.o j hjr;obtain⟨b',off',s0,hbo,-,-,hs0,hv0⟩:=HC.o 0 h0r;obtain⟨rfl,rfl⟩:b=b'/\off=off':=(by simpa using hbo);have HD2:=aB (HD.o.trans (allV_drop (goodR rows) hjr));obtain⟨va,vc,rfl,-⟩:=id hv;obtain⟨va0,vc0,rfl,-⟩:=id hv0;have HRW:=aB (fun(W':World) (hb:Bl W W')=>wrow_any (by have:=HRL.o _ (dS hjr);omega) (fun v hv=>(HINT.o _ (dS hjr) v hv).1) W' va vc (hv.bl hb));have HW0:=aB (HWA.o h0r);have HWN:=aB (HWT.o h0r j);have HGJ:=aB (HG1.o rows[j]);rw[HW0.o] at HGJ;have HCJ:=aB (Bl.cell HF.o.bl hs);have HC0:=aB (Bl.cell HF.o.bl hs0);simp only[Nat.add_zero] at HC0;have hlt':(j:Int)<(q:Int):=(by omega);have hq0:0<q:=(by omega);clear hs hs0 hv hv0 hbo;generalize rowB (rows[j]'hjr)=rb at *;generalize hnj:(rows[j]'hjr).length=nj at *;generalize hn0:(rows[0]'h0r).length=n0 at *;generalize goodR rows (rows[j]'hjr)=gj at *;clear hnj hn0
   go_upto_region 5 with fail
   by_cases hn:nj=n0
   ·rw[decide_eq_true (show(nj:Int)=(n0:Int) by omega),rC] at HGJ;have gn:((nj:Int) != (n0:Int))=false:=(by simpa using(show(nj:Int)=(n0:Int) by omega));clear hn;refine wp_region_noPanic (bM (fun B=>Bl wr B) ((.take 0 (.take 1 (.take 2 (.take 3 (.take 4 (.take 5 (.take 6 (.take 7 (.take 8 (.take 9 (.take 10 (.take 11 (.take 12 (.take 13 (.take 14 (.one 15 (.take 16 (.take 17 .done))))))))))))))))))) (by kernel_rfl) (by kernel_rfl) (by kernel_rfl) (fun _ _ _ _ _ h=>h) (((Bl.refl wr).drew)) ?_);intro wd HWD hY;iterate 15 (refine aI rfl (by rfl) (by intro w hSw;(try dsimp only at hSw);have c1:=Bl.cell hSw HCJ.o;have c2:=Bl.cell hSw HC0.o;go_simp;(try(first |with_reducible rfl|rfl))) ?_;(try simp only[aK,aA,aD,aF]))
    refine aL rfl (fun K hK=>?_);go_simp;(refine(HRW.o _ (HF.o.bl.call hY)).mono ?_;rintro e w15 ⟨rfl,hb15⟩);go_wp2_with fail;refine hK.o _ _ ((by first |exact hY.call hb15)) ?_;clear hY hK K;intro hY;iterate 2 (refine aI rfl (by rfl) (by intro w hSw;(try dsimp only at hSw);have c1:=Bl.cell hSw HCJ.o;have c2:=Bl.cell hSw HC0.o;go_simp;(try(first |with_reducible rfl|rfl))) ?_;(try simp only[aK,aA,aD,aF]))
    refine fO (bF ?_);have HF5:=aB (HF.o.call hY);have c2:=Bl.cell hY HC0.o;clear hY hb15 HCJ HC0;cases rb
    ·have HN:=aB (HNO.o (by rw[HD2.o,HGJ.o];rfl));go_wp2_with (refine bA (g:=W.heap.size+1) (i:=0) rfl rfl rfl rfl (cells3 zVl) (HF5.o).r rfl rfl vlInfo rfl ?_)
     intro w9 hB9 hX9;obtain⟨q0,q1,q2⟩:=three3 hX9;go_wp2;refine bodyPost_ret (v:= .tuple #[VlV zVl,.int .i64 2]) (by simp[results,Tryz.results17,go_sem,q0,q1,q2]) rfl ⟨?_,hB9.bl (HF5.o).bl (by omega)⟩;rw[HN.o]
    ·have HD3:=aB (HD2.o.trans (by rw[HGJ.o,rC]));go_wp2;go_roundw
     case rel=>exact⟨j+1,_,by omega,rfl,by go_num,HWN.o.symm,HD3.o,HF5.o⟩
     case measure=>simp[intOf];omega
   ·rw[decide_eq_false (show ¬(nj:Int)=(n0:Int) by omega),pK] at HGJ;have gn:((nj:Int) != (n0:Int))=true:=(by simpa using(show ¬(nj:Int)=(n0:Int) by omega));have HN:=aB (HNO.o (by rw[HD2.o,HGJ.o];rfl));clear hn;refine wp_region_noPanic (bM (fun B=>Bl wr B) ((.take 0 (.take 1 (.take 2 (.take 3 (.take 4 (.take 5 (.take 6 (.take 7 (.take 8 (.take 9 (.take 10 (.take 11 (.take 12 (.take 13 (.take 14 (.take 15 (.take 16 (.take 17 .done))))))))))))))))))) (by kernel_rfl) (by kernel_rfl) (by kernel_rfl) (fun _ _ _ _ _ h=>h) (((Bl.refl wr).drew)) ?_);intro wd HWD hY;iterate 11 (refine aI rfl (by rfl) (by intro w hSw;(try dsimp only at hSw);have c1:=Bl.cell hSw HCJ.o;have c2:=Bl.cell hSw HC0.o;go_simp;(try(first |with_reducible rfl|rfl))) ?_;(try simp only[aK,aA,aD,aF]))
    refine dK rfl (by rfl) ?_;(try simp only[aK,aA,aD,aF])
    refine dK rfl (by rfl) ?_;(try simp only[aK,aA,aD,aF])
    refine dK rfl (by rfl) ?_;(try simp only[aK,aA,aD,aF])
    refine dK rfl (by rfl) ?_;(try simp only[aK,aA,aD,aF])
    refine dK rfl (by rfl) ?_;(try simp only[aK,aA,aD,aF])
    refine dK rfl (by rfl) ?_;(try simp only[aK,aA,aD,aF])
    refine aI rfl (by rfl) (by intro w hSw;(try dsimp only at hSw);have c1:=Bl.cell hSw HCJ.o;have c2:=Bl.cell hSw HC0.o;go_simp;(try(first |with_reducible rfl|rfl))) ?_;(try simp only[aK,aA,aD,aF])
    refine fO (bF ?_);have HF5:=aB (HF.o.call hY);go_wp2_with (refine bA (g:=W.heap.size+1) (i:=0) rfl rfl rfl rfl (cells3 zVl) (HF5.o).r rfl rfl vlInfo rfl ?_)
    intro w9 hB9 hX9;obtain⟨q0,q1,q2⟩:=three3 hX9;go_wp2;refine bodyPost_ret (v:= .tuple #[VlV zVl,.int .i64 2]) (by simp[results,Tryz.results17,go_sem,q0,q1,q2]) rfl ⟨?_,hB9.bl (HF5.o).bl (by omega)⟩;rw[HN.o]
  ·obtain rfl:q=j:=by omega
   have HGT:=aB (HD.o.trans (by rw[List.drop_of_length_le (by rw[HQ.o];exact aH _)];rfl):rowsB rows=true);have hxw:x=widthR rows:=by
    have h:=HX.o
    rwa [jS (by rw[HQ.o];exact aH _)] at h
   have hge:¬((q:Int)<(q:Int)):=(by omega);rw[<-hxw] at HRI;clear hxw HX HD HC HWA HWT HGB HG1 HGD HRL HINT;obtain⟨e0,e1,e2,e3,e4,e5,e6,e7,e8⟩:=nine HF.o.x;go_wp2_with fail;refine(HRI.o _ HF.o.bl).mono ?_;rintro e w1 ⟨rfl,hb1⟩;have HF1:=aB (HF.o.call hb1);clear hb1 e0 e1 e2 e3 e4 e5 e6 e7 e8;cases A
   ·have HN:=aB (HNO.o (by rw[Bool.and_false]));go_wp2_with (refine bA (g:=W.heap.size+1) (i:=0) rfl rfl rfl rfl (cells3 zVl) (HF1.o).r rfl rfl vlInfo rfl ?_)
    intro w9 hB9 hX9;obtain⟨q0,q1,q2⟩:=three3 hX9;go_wp2;refine bodyPost_ret (v:= .tuple #[VlV zVl,.int .i64 2]) (by simp[results,Tryz.results17,go_sem,q0,q1,q2]) rfl ⟨?_,hB9.bl (HF1.o).bl (by omega)⟩;rw[HN.o]
   ·have HB3:=aB (HBD.o (by rw[HGT.o];rfl));have HY3:=aB (HYE.o (by rw[HGT.o];rfl));have HW3:=aB (HWK.o rfl HGT.o);obtain⟨r1,r2,r3⟩:=rv;clear HNO HBD HYE HWK;obtain⟨g0,g1,g2,g3,g4,g5,g6,g7,g8⟩:=nine HF1.o.x;go_wp2_with fail;refine(HW3.o _ HF1.o.bl).mono ?_;rintro e w5 ⟨rfl,hb5⟩;have HF6:=aB ((HF1.o.call hb5).call ((Bl.refl w5).alloc (.cells #[.int .i64 r1,.int .i64 r2,S r3] 26)));have HX6:=aB (aN w5 (.cells #[.int .i64 r1,.int .i64 r2,S r3] 26));clear g0 g1 g2 g3 g4 g5 g6 g7 g8 hb5;obtain⟨n5,hn5⟩:∃n5,w5.heap.size=n5:=⟨_,rfl⟩
    go_upto_region 11 with fail
    obtain⟨u,hu⟩:∃u,w5.alloc (.cells #[.int .i64 r1,.int .i64 r2,S r3] 26)=u:=⟨_,rfl⟩
    change Code.wp _ _ _ _ (w5.alloc (.cells #[.int .i64 r1,.int .i64 r2,S r3] 26));rw[hu] at HF6 HX6⊢
    try rw[hn5] at HX6
    try rw[hn5]
    obtain⟨q0,q1,q2⟩:=three3 HX6.o;clear hu hn5;by_cases hc:c=0
    ·have HZ:=aB (HY3.o hc);subst hc;go_wp2_with (refine bA (g:=W.heap.size+1) (i:=0) rfl rfl rfl rfl (cells3 (r1,r2,r3)) (HF6.o).r rfl rfl vlInfo rfl ?_)
     intro w9 hB9 hX9;obtain⟨q0,q1,q2⟩:=three3 hX9;go_wp2;refine bodyPost_ret (v:= .tuple #[VlV (r1,r2,r3),.int .i64 0]) (by simp[results,Tryz.results17,go_sem,q0,q1,q2]) rfl ⟨?_,hB9.bl (HF6.o).bl (by omega)⟩;rw[HZ.o]
    ·have HZ:=aB (HB3.o hc);have gc:(c != 0)=true:=(by simpa using hc);clear hc;go_wp2_with (refine bA (g:=W.heap.size+1) (i:=0) rfl rfl rfl rfl (cells3 zVl) (HF6.o).r rfl rfl vlInfo rfl ?_)
     intro w9 hB9 hX9;obtain⟨q0,q1,q2⟩:=three3 hX9;go_wp2;refine bodyPost_ret (v:= .tuple #[VlV zVl,.int .i64 c]) (by simp[results,Tryz.results17,go_sem,q0,q1,q2]) rfl ⟨?_,hB9.bl (HF6.o).bl (by omega)⟩;rw[HZ.o]
end
end Go.Proofs.YtdbkbfkpmnpldaaGreatDoor
