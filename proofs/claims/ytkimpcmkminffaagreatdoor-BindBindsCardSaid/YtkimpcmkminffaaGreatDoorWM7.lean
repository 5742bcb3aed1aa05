/- Texts beside the shared ones. -/
import Derived.Test.YtkimpcmkminffaaGreatDoorWX0
import Derived.Test.YtkimpcmkminffaaGreatDoorWM6
namespace Go.Proofs.YtkimpcmkminffaaGreatDoor
open Go.RowKit
open _root_.Go.Addr renaming add->dY
open _root_.Array renaming getElem?_eq_some_iff->aC
open _root_.Go.RowKit.Below renaming grown->iL
open _root_.Bool renaming and_eq_true->aQ,eq_iff_iff->kC,false_and->pK,true_and->rC
open _root_.Go.Lib renaming cell_of_heap->aG,frozen_of_heap->aJ,hid->aB
open _root_.List renaming all_eq_true->jA,drop_eq_getElem_cons->aZ,drop_length->dO,drop_succ_cons->gB,drop_zero->oC,getElem?_drop->iE,getElem?_eq_getElem->aP,getElem?_map->iJ,getElem_cons_zero->jB,getElem_mem->dS,length_append->bD,length_map->mD,map_append->kW,map_cons->kP,mem_append->iX,mem_cons->dD,mem_of_getElem?->dJ,mem_singleton->gQ,take_length->gJ,take_of_length_le->jS
open _root_.Nat renaming le_refl->aH,zero_add->gD,zero_le->dL
open _root_.Option renaming map_eq_some_iff->aT
open _root_.Go.World renaming block_lt_of_cell?->bB,ownsRow_nil->d2l,size_alloc->aR
set_option maxRecDepth 100000
set_option maxHeartbeats 16000000
section
theorem eval_fine{b:Bd}{r:List Vl}(hi:intsD b)(hint:∀v∈r,IntV v)(h0:(evalQ b r).2=0):okVl (evalQ b r).1=true/\IntV (evalQ b r).1:=by
 cases h:(rightD r.length b&&rowB r&& !sumsD b)
 ·rw[eval_no h] at h0;cases h0
 ·by_cases h2:(workD [r] b).2=0
  ·rw[eval_yes h h2];simp only[aQ] at h;exact⟨work_ok r.length b [r] (by simpa using h.1.2) h.1.1 h2,int_work b [r] (by simp) (by simpa using hint) hi⟩
  ·rw[eval_bad h h2] at h0;exact absurd h0 h2
theorem known_ok{v:Vl}(h:okVl v=true):(0<=knVl v↔¬1<v.1):=by
 rw[okVl_iff] at h;unfold knVl d1d;rw[if_neg (by omega)];unfold chk at h;split at h
 ·cases h
 ·split at h
  ·rename_i h2;split
   ·omega
   ·split
    ·omega
    ·omega
  ·cases h
theorem truth_bad{b:Bd}{r:List Vl}(h:(evalQ b r).2≠0):truthQ b r=(0,(evalQ b r).2):=by unfold truthQ;rw[if_pos h]
theorem truth_no{b:Bd}{r:List Vl}(h:(evalQ b r).2=0)(h1:1<(evalQ b r).1.1):truthQ b r=(0,120):=by unfold truthQ;rw[if_neg (fun e=>e h),if_pos h1]
theorem truth_yes{b:Bd}{r:List Vl}(h:(evalQ b r).2=0)(h1:¬1<(evalQ b r).1.1):truthQ b r=(knVl (evalQ b r).1,0):=by unfold truthQ;rw[if_neg (fun e=>e h),if_neg h1]
end
section
theorem bGroup1_any(b:Nat)(x0 x1 x2:Value)(w:World)(h:w.heap[b]?=some (.cells #[x0,x1,x2] 26 (0,0))):Calls Tryz.prog 24 #[.pointer (some ⟨b,0,none⟩)] w fun e w'=>e= .returned (.tuple #[])/\(But b w w'/\w'.heap[b]?=some (.cells (cells3 zVl).toArray 26 (0,0))):=by
 go_enter Tryz.func24,Tryz.ntmps24;go_wp2_with (refine bA (old:=[x0,x1,x2]) rfl rfl rfl rfl (cells3 zVl) h rfl rfl vlInfo rfl ?_)
 intro w9 hB9 hX9;go_wp2;go_end0;exact⟨rfl,hB9,hX9⟩
theorem enters_bGroup1(args:Array Value)(w:World):(callFunc 24 args).run Tryz.prog w= .ok (.enter 24 args) w:=by simp[go_sem]
def goodR(rows:List (List Vl))(r:List Vl):Bool:=decide ((r.length:Int)=widthR rows)&&rowB r
theorem rows_good(rows:List (List Vl)):rowsB rows=rows.all (goodR rows):=rfl
theorem rows_bad{rows:List (List Vl)}{j:Nat}(hj:j<rows.length)(h:goodR rows rows[j]=false):rowsB rows=false:=by
 rw[rows_good,List.all_eq_false];exact⟨_,dS hj,by rw[h];exact Bool.false_ne_true⟩
theorem width_take{rows:List (List Vl)}(h:0<rows.length)(j:Nat):widthR (rows.take (j+1))=(rows[0].length:Int):=by
 cases rows with
 |nil=>cases h
 |cons r s=>rfl
theorem width_at{rows:List (List Vl)}(h:0<rows.length):widthR rows=(rows[0].length:Int):=by
 cases rows with
 |nil=>cases h
 |cons r s=>rfl
theorem group_no{b:Bd}{rows:List (List Vl)}(h:(rowsB rows&&rightD (widthR rows) b)=false):groupQ b rows=(zVl,2):=by unfold groupQ;rw[if_pos h]
theorem e3w{b:Bd}{rows:List (List Vl)}(h:(rowsB rows&&rightD (widthR rows) b)=true)(h2:(workD rows b).2≠0):groupQ b rows=(zVl,(workD rows b).2):=by unfold groupQ;rw[if_neg (by rw[h];decide),if_pos h2]
theorem group_yes{b:Bd}{rows:List (List Vl)}(h:(rowsB rows&&rightD (widthR rows) b)=true)(h2:(workD rows b).2=0):groupQ b rows=workD rows b:=by unfold groupQ;rw[if_neg (by rw[h];decide),if_neg (fun e=>e h2)]
theorem bGroup_any(b:Bd)(rows:List (List Vl))(hp:partsD b<=1000000)(hi:intsD b)(hm:rows.length<=1000000)(hlen:∀r∈rows,r.length<=1000000)(hint:∀r∈rows,∀v∈r,IntV v)(W:World)(v:Value)(ra:Option Addr)(rc:Nat)(hv:ReadsD W b v)(hr:ReadsRw (fun _=>True) W (.slice ra rows.length rc) rows):
  Calls Tryz.prog 8 #[v,.slice ra rows.length rc] W fun e w'=>e= .returned (.tuple #[VlV (groupQ b rows).1,.int .i64 (groupQ b rows).2])/\Bl W w':=by
 obtain⟨Z,HZ⟩:∃Z,Hid (groupQ b rows=Z):=⟨_,rfl⟩
 rw[HZ.o];have HCK:Hid (∀W',Bl W W'->Calls Tryz.prog 27 #[v,.int .i64 (widthR rows)] W' fun e w'=>e= .returned (.int .i64 (if rightD (widthR rows) b then 0 else 2))/\Bl W' w'):=fun W' hb=>bCheck_any _ b hp W' v (hv.bl hb);have HWK:Hid (rowsB rows=true->rightD (widthR rows) b=true->∀W',Bl W W'->Calls Tryz.prog 28 #[v,.slice ra rows.length rc] W' fun e w'=>e=resV ((workD rows b).1,(workD rows b).2)/\Bl W' w'):=fun hg h W' hb=>
  buwork_any (widthR rows) _ hp b (aH _) h hi rows hm (fun r hr=>by
   have:=jA.1 hg r hr;simp only[aQ,decide_eq_true_eq] at this;exact this.1) hint W' v _ _ (hv.bl hb) (hr.bl hb)
 have HNO:=aB (fun h=>group_no (b:=b) (rows:=rows) h);have HBD:=aB (fun h h2=>e3w (b:=b) (rows:=rows) h h2);have HYE:=aB (fun h (h2:(workD rows b).2=0)=>(group_yes (b:=b) (rows:=rows) h h2).trans (show workD rows b=((workD rows b).1,(workD rows b).2) from rfl));rw[HZ.o] at HNO HBD HYE;obtain⟨ra',rc',e,hrr⟩:=hr;obtain⟨rfl,rfl⟩:ra=ra'/\rc=rc':=(by simpa using e);have HRR:=aB hrr;have HLN:=aB hlen;generalize rightD (widthR rows) b=A at *;generalize (workD rows b).1=rv at *;generalize (workD rows b).2=c at *;clear HZ hp hi hint hrr e hlen;obtain⟨sv,rfl,hR⟩:=hv;obtain⟨a,cap,rfl,-⟩:=hR.shape;clear hR;obtain⟨k,t,⟨v1,v2,v3⟩,p,o,n,args⟩:=b;simp only[Bd.k,Bd.t,Bd.v,Bd.p,Bd.o,Bd.n,Bd.args] at *;generalize args.length=m at *;have HF0:=aB (EvF.start (cellsB k t v1 v2 v3 p o n (.slice a m cap)) W)
 go_enter_defers Tryz.func8,Tryz.ntmps8
 go_wp2_with fail;go_loopw [6,12] (fun wd i wr=>∃j:Nat,j<=rows.length/\wd= .int .i64 (widthR (rows.take j))/\i= .int .i64 (j:Int)/\Hid ((rows.take j).all (goodR rows)=true)/\Hid (EvF (cellsB k t v1 v2 v3 p o n (.slice a m cap)) W wr)) (fun _ i _=>rows.length-(intOf i).toNat)
 case atStart=>exact⟨0,dL _,rfl,rfl,rfl,HF0.o⟩
 case round=>
  obtain⟨j,hj,rfl,rfl,HG,HF⟩:=hrel;by_cases hlt:j<rows.length
  ·obtain⟨b0,off,s,hra,-,hb0,hc0,hvs⟩:=HRR.o j _ (aP hlt);subst hra;obtain⟨b1,off1,s0,hra1,-,hb1,hc1,hvs1⟩:=HRR.o 0 _ (aP (show 0<rows.length by omega));obtain⟨rfl,rfl⟩:b0=b1/\off=off1:=(by simpa using hra1);obtain⟨sa,sc,rfl,-⟩:=id hvs;have HRT:=aB (fun W' (hb:Bl wr W')=>bright_any (HLN.o _ (dS hlt)) (hvs.bl (HF.o.bl.call hb)));obtain⟨sa1,sc1,rfl,-⟩:=id hvs1;rw[Nat.add_zero] at hc1;have ec:=Bl.cell HF.o.bl hc0;have ed:=Bl.cell HF.o.bl hc1;have hlt':(j:Int)<(rows.length:Int):=(by omega);have hl0:(0:Int)<(rows.length:Int):=(by omega);have HWT:=aB (width_take (show 0<rows.length by omega) j);have HWA:=aB (width_at (show 0<rows.length by omega));have HGN:=aB (fun(h:goodR rows rows[j]=true)=>(show(rows.take (j+1)).all (goodR rows)=true from by
    rw[takeD_snoc rows hlt,List.all_append,HG.o,rC];simpa using h))
   have HGB:=aB (fun(h:goodR rows rows[j]=false)=>HNO.o (by rw[rows_bad hlt h];rfl));have HGD:=aB (show goodR rows rows[j]=(decide ((rows[j].length:Int)=(rows[0].length:Int))&&rowB rows[j]) from by unfold goodR;rw[HWA.o]);rw[HGD.o] at HGN HGB;generalize rowB rows[j]=gr at *;generalize rows[j].length=q1 at *;generalize rows[0].length=q0 at *;clear hra1 hb1 hc1 hvs1 hb0 hc0 hvs HGD;by_cases hq:(q1:Int)=(q0:Int)
   ·have hq2:((q1:Int)==(q0:Int))=true:=by simpa using hq
    rw[decide_eq_true hq,rC] at HGN HGB;clear hq;go_wp2_with fail
    (with_reducible refine(bmust_yes _ _).mono ?_)
    rintro e w2 ⟨rfl,rfl⟩;clear hq2 ed ec;go_wp2_with fail;refine(HRT.o _ (Bl.refl _)).mono ?_;rintro e w4 ⟨⟨hg,rfl⟩|⟨hg,rfl⟩,hb4⟩
    ·have HG2:=aB (HGN.o hg);have HF2:=aB (HF.o.call hb4);clear hb4;go_wp2;go_roundw
     case rel=>exact⟨j+1,by omega,by rw[HWT.o],by go_num,HG2.o,HF2.o⟩
     case measure=>simp[intOf];omega
    ·have HZ:=aB (HGB.o hg);have HF2:=aB (HF.o.call hb4);clear hb4;have c1:=cK (HF2.o).e;have z1:=aJ (HF2.o).e 0
     try unfold panE
     go_wp2_with fail;refine leaves_cons (f:=23) (args:= #[.pointer (some ⟨W.heap.size+2,0,none⟩),.func (.func 24) #[] #[.pointer (some ⟨W.heap.size+1,0,none⟩)]]) (by simp) (by simp[go_sem]) ?_;have h3:=bcaught_panic ⟨W.heap.size+2,0,none⟩ 0 (2) 24 #[] #[.pointer (some ⟨W.heap.size+1,0,none⟩)] #[.pointer (some ⟨W.heap.size+1,0,none⟩)] (by simp) _ _ c1 z1 enters_bGroup1 (bGroup1_any (W.heap.size+1) _ _ _ _ (set1_other (HF2.o).v (b:=W.heap.size+2) (by omega) 0 (.int .i64 (2))));refine h3.mono ?_;rintro e u' w'' ⟨rfl,rfl,hB9,hX9⟩;obtain⟨r0,r1,r2⟩:=three3 hX9;have r3:=cK ((hB9.same (W.heap.size+2) (by omega)).trans (lN (HF2.o).e 0 (.int .i64 (2))));refine⟨.tuple #[VlV zVl,.int .i64 (2)],by simp[results,Tryz.results8,go_sem,r0,r1,r2,r3],by rw[HZ.o],hB9.bl ((HF2.o).bl.set (p:=⟨W.heap.size+2,0,none⟩) (by show W.heap.size<=W.heap.size+2;omega) _) (by omega)⟩
   ·have hq2:((q1:Int)==(q0:Int))=false:=by simpa using hq
    rw[decide_eq_false hq,pK] at HGB;have HZ:=aB (HGB.o rfl);clear hq;go_wp2_with fail
    (with_reducible refine(bmust_no _ _).mono ?_)
    rintro e w2 ⟨rfl,rfl⟩;clear ed ec;have c1:=cK (HF.o).e;have z1:=aJ (HF.o).e 0
    try unfold panE
    go_wp2_with fail;refine leaves_cons (f:=23) (args:= #[.pointer (some ⟨W.heap.size+2,0,none⟩),.func (.func 24) #[] #[.pointer (some ⟨W.heap.size+1,0,none⟩)]]) (by simp) (by simp[go_sem]) ?_;have h3:=bcaught_panic ⟨W.heap.size+2,0,none⟩ 0 (2) 24 #[] #[.pointer (some ⟨W.heap.size+1,0,none⟩)] #[.pointer (some ⟨W.heap.size+1,0,none⟩)] (by simp) _ _ c1 z1 enters_bGroup1 (bGroup1_any (W.heap.size+1) _ _ _ _ (set1_other (HF.o).v (b:=W.heap.size+2) (by omega) 0 (.int .i64 (2))));refine h3.mono ?_;rintro e u' w'' ⟨rfl,rfl,hB9,hX9⟩;obtain⟨r0,r1,r2⟩:=three3 hX9;have r3:=cK ((hB9.same (W.heap.size+2) (by omega)).trans (lN (HF.o).e 0 (.int .i64 (2))));refine⟨.tuple #[VlV zVl,.int .i64 (2)],by simp[results,Tryz.results8,go_sem,r0,r1,r2,r3],by rw[HZ.o],hB9.bl ((HF.o).bl.set (p:=⟨W.heap.size+2,0,none⟩) (by show W.heap.size<=W.heap.size+2;omega) _) (by omega)⟩
  ·obtain rfl:j=rows.length:=by omega
   have hge:¬((rows.length:Int)<(rows.length:Int)):=(by omega);rw[gJ] at HG⊢;have HRB:=aB (show rowsB rows=true from HG.o);have HWK2:=aB (HWK.o HRB.o);rw[HRB.o,rC] at HNO HBD HYE;obtain⟨g0,g1,g2,g3,g4,g5,g6,g7,g8⟩:=nine HF.o.x;generalize widthR rows=wd at *;clear HWK HG HRB HLN HRR;go_wp2_with fail;refine(HCK.o _ HF.o.bl).mono ?_;rintro e w1 ⟨rfl,hb1⟩;have HF1:=aB (HF.o.call hb1);clear hb1 g0 g1 g2 g3 g4 g5 g6 g7 g8;cases A
   ·have HZ:=aB (HNO.o rfl);go_wp2_with fail
    (with_reducible refine(bmust_no _ _).mono ?_)
    rintro e w2 ⟨rfl,rfl⟩;have c1:=cK (HF1.o).e;have z1:=aJ (HF1.o).e 0
    try unfold panE
    go_wp2_with fail;refine leaves_cons (f:=23) (args:= #[.pointer (some ⟨W.heap.size+2,0,none⟩),.func (.func 24) #[] #[.pointer (some ⟨W.heap.size+1,0,none⟩)]]) (by simp) (by simp[go_sem]) ?_;have h3:=bcaught_panic ⟨W.heap.size+2,0,none⟩ 0 (2) 24 #[] #[.pointer (some ⟨W.heap.size+1,0,none⟩)] #[.pointer (some ⟨W.heap.size+1,0,none⟩)] (by simp) _ _ c1 z1 enters_bGroup1 (bGroup1_any (W.heap.size+1) _ _ _ _ (set1_other (HF1.o).v (b:=W.heap.size+2) (by omega) 0 (.int .i64 (2))));refine h3.mono ?_;rintro e u' w'' ⟨rfl,rfl,hB9,hX9⟩;obtain⟨r0,r1,r2⟩:=three3 hX9;have r3:=cK ((hB9.same (W.heap.size+2) (by omega)).trans (lN (HF1.o).e 0 (.int .i64 (2))));refine⟨.tuple #[VlV zVl,.int .i64 (2)],by simp[results,Tryz.results8,go_sem,r0,r1,r2,r3],by rw[HZ.o],hB9.bl ((HF1.o).bl.set (p:=⟨W.heap.size+2,0,none⟩) (by show W.heap.size<=W.heap.size+2;omega) _) (by omega)⟩
   ·have HB3:=aB (HBD.o rfl);have HY3:=aB (HYE.o rfl);have HW3:=aB (HWK2.o rfl);clear HNO HBD HYE HWK2;obtain⟨g0,g1,g2,g3,g4,g5,g6,g7,g8⟩:=nine HF1.o.x;go_wp2_with fail
    (with_reducible refine(bmust_yes _ _).mono ?_)
    rintro e w2 ⟨rfl,rfl⟩;go_wp2_with fail;refine(HW3.o _ HF1.o.bl).mono ?_;rintro e w5 ⟨he,hb5⟩;have HF6:=aB (HF1.o.call hb5);clear g0 g1 g2 g3 g4 g5 g6 g7 g8 hb5;rcases resV_ways rv c with⟨hc,hh⟩|⟨hc,hh⟩
    ·rw[hh] at he;subst he;have HZ:=aB ((HY3.o hc).trans (by rw[hc]):Z=(rv,0));clear hh hc HB3 HY3;go_wp2_with (refine bA rfl rfl rfl rfl (cells3 rv) (HF6.o).v rfl rfl vlInfo rfl ?_)
     intro w8 hB8 hX8;have hE8:=(hB8.same (W.heap.size+2) (by omega)).trans (HF6.o).e;have c1:=cK hE8;have z1:=aJ hE8 0;obtain⟨q0,q1,q2⟩:=three3 hX8;go_wp2_with fail;refine leaves_cons (f:=23) (args:= #[.pointer (some ⟨W.heap.size+2,0,none⟩),.func (.func 24) #[] #[.pointer (some ⟨W.heap.size+1,0,none⟩)]]) (by simp) (by simp[go_sem]) ?_;refine(bcaught_idle _ _ _).mono ?_;rintro e u' w'' ⟨rfl,rfl,rfl⟩;obtain⟨r0,r1,r2⟩:=three3 (set1_other hX8 (b:=W.heap.size+2) (by omega) 0 (.int .i64 0));have r3:=cK (lN hE8 0 (.int .i64 0));refine⟨.tuple #[VlV rv,.int .i64 0],by simp[results,Tryz.results8,go_sem,r0,r1,r2,r3],by rw[HZ.o],(hB8.bl (HF6.o).bl (by omega)).set (p:=⟨W.heap.size+2,0,none⟩) (by show W.heap.size<=W.heap.size+2;omega) _⟩
    ·rw[hh] at he;subst he;have HZ:=aB (HB3.o hc);clear hh hc HB3 HY3;have c1:=cK (HF6.o).e;have z1:=aJ (HF6.o).e 0
     try unfold panE
     go_wp2_with fail;refine leaves_cons (f:=23) (args:= #[.pointer (some ⟨W.heap.size+2,0,none⟩),.func (.func 24) #[] #[.pointer (some ⟨W.heap.size+1,0,none⟩)]]) (by simp) (by simp[go_sem]) ?_;have h3:=bcaught_panic ⟨W.heap.size+2,0,none⟩ 0 (c) 24 #[] #[.pointer (some ⟨W.heap.size+1,0,none⟩)] #[.pointer (some ⟨W.heap.size+1,0,none⟩)] (by simp) _ _ c1 z1 enters_bGroup1 (bGroup1_any (W.heap.size+1) _ _ _ _ (set1_other (HF6.o).v (b:=W.heap.size+2) (by omega) 0 (.int .i64 (c))));refine h3.mono ?_;rintro e u' w'' ⟨rfl,rfl,hB9,hX9⟩;obtain⟨r0,r1,r2⟩:=three3 hX9;have r3:=cK ((hB9.same (W.heap.size+2) (by omega)).trans (lN (HF6.o).e 0 (.int .i64 (c))));refine⟨.tuple #[VlV zVl,.int .i64 (c)],by simp[results,Tryz.results8,go_sem,r0,r1,r2,r3],by rw[HZ.o],hB9.bl ((HF6.o).bl.set (p:=⟨W.heap.size+2,0,none⟩) (by show W.heap.size<=W.heap.size+2;omega) _) (by omega)⟩
end
section
abbrev FdV(f:Fd):Value:= .agg #[S f.tb,S f.n,.int .i64 f.t]
def idxF(pr:Fd->Bool):Nat->List Fd->Int
 |_,[]=> -1
 |i,v::r=>if pr v then(i:Int) else idxF pr (i+1) r
theorem idxF_drop{pr:Fd->Bool}{l:List Fd}{j:Nat}(hj:j<l.length):idxF pr j (l.drop j)=if pr l[j] then(j:Int) else idxF pr (j+1) (l.drop (j+1)):=by
 rw[aZ hj];rfl
theorem idxF_any(pr:Fd->Bool):∀(l:List Fd) (i:Nat),decide (0<=idxF pr i l)=l.any pr
 |[],i=>rfl
 |v::r,i=>by
  rw[kC,decide_eq_true_eq,List.any_cons];by_cases hv:pr v=true
  ·have e:idxF pr i (v::r)=(i:Int):=by simp only[idxF];rw[if_pos hv]
   rw[e,hv,Bool.true_or];simp
  ·have e:idxF pr i (v::r)=idxF pr (i+1) r:=by simp only[idxF];rw[if_neg hv]
   rw[e,Bool.eq_false_iff.2 hv,Bool.false_or,<-idxF_any pr r (i+1),decide_eq_true_eq]
theorem idxF_at(pr:Fd->Bool):∀(l:List Fd) (i:Nat),(idxF pr i l= -1/\∀x∈l,pr x=false)\/∃k,∃h:k<l.length,idxF pr i l=((i+k:Nat):Int)/\pr l[k]=true/\∀x∈l.take k,pr x=false
 |[],i=> .inl ⟨rfl,fun x hx=>by cases hx⟩
 |v::r,i=>by
  simp only[idxF];by_cases hv0:pr v=true
  ·rw[if_pos hv0];exact .inr ⟨0,by simp,by simp,by simpa using hv0,fun x hx=>by simp at hx⟩
  ·have hv:=Bool.eq_false_iff.2 hv0;rw[if_neg hv0];rcases idxF_at pr r (i+1) with⟨h1,h2⟩|⟨k,hk,h1,h2,h3⟩
   ·refine .inl ⟨h1,fun x hx=>?_⟩;rcases dD.1 hx with rfl|hx
    ·exact hv
    ·exact h2 x hx
   ·refine .inr ⟨k+1,by simpa using hk,?_,by simpa using h2,fun x hx=>?_⟩
    ·rw[h1]
     congr 1
     omega
    ·rw[List.take_succ_cons] at hx;rcases dD.1 hx with rfl|hx
     ·exact hv
     ·exact h3 x hx
theorem find_none{x:Ex}:∀{l:List Fd} {i:Nat},(∀f∈l,isFd x f=false)->findFd x i l=[]
 |[],_,_=>rfl
 |f::r,i,h=>by
  simp only[findFd];rw[if_neg (by rw[h f (by simp)];exact Bool.false_ne_true)];exact find_none fun g hg=>h g (List.mem_cons_of_mem _ hg)
theorem find_some{x:Ex}:∀{l:List Fd} {i:Nat},l.any (isFd x)=true->∃a b,findFd x i l=a::b
 |[],_,h=>by cases h
 |f::r,i,h=>by
  simp only[findFd];by_cases hf:isFd x f=true
  ·exact⟨_,_,by rw[if_pos hf]⟩
  ·rw[if_neg hf];rw[List.any_cons,Bool.eq_false_iff.2 hf,Bool.false_or] at h;exact find_some h
theorem find_at{x:Ex}:∀{l:List Fd} {i k:Nat} (hk:k<l.length),isFd x l[k]=true->(∀f∈l.take k,isFd x f=false)->findFd x i l=(i+k,l[k])::findFd x (i+k+1) (l.drop (k+1))
 |f::r,i,0,_,h,_=>by
  simp only[findFd,jB,Nat.add_zero,gD,gB,oC] at h⊢;rw[if_pos h]
 |f::r,i,k+1,hk,h,ha=>by
  simp only[findFd];rw[if_neg (by rw[ha f (by simp)];exact Bool.false_ne_true),find_at (l:=r) (i:=i+1) (k:=k) (by simpa using hk) (by simpa using h) (fun g hg=>ha g (by simp[hg]))];simp only[List.getElem_cons_succ,gB]
  congr 1
  ·congr 1
   omega
  ·congr 1
   omega
def foundR(x:Ex)(fs:List Fd):Int×Int:=match findFd x 0 fs with
 |[]=>(0,300)
 |[(i,_)]=>((i:Int),0)
 |_=>(0,301)
theorem found_none{x:Ex}{fs:List Fd}(h:∀f∈fs,isFd x f=false):foundR x fs=(0,300):=by unfold foundR;rw[find_none h]
theorem found_one{x:Ex}{fs:List Fd}{k:Nat}(hk:k<fs.length)(h:isFd x fs[k]=true)(ha:∀f∈fs.take k,isFd x f=false)(hr:(fs.drop (k+1)).any (isFd x)=false):foundR x fs=((k:Int),0):=by
 unfold foundR;rw[find_at hk h ha,find_none (fun f hf=>by rw[List.any_eq_false] at hr;simpa using hr f hf)];simp
theorem found_two{x:Ex}{fs:List Fd}{k:Nat}(hk:k<fs.length)(h:isFd x fs[k]=true)(ha:∀f∈fs.take k,isFd x f=false)(hr:(fs.drop (k+1)).any (isFd x)=true):foundR x fs=(0,301):=by
 unfold foundR;obtain⟨a,b,e⟩:=find_some (i:=0+k+1) hr;rw[find_at hk h ha,e]
theorem ReadsFd.shape{p:Nat->Prop}{W:World}{sv:Value}{l:List Fd}(h:ReadsFd p W sv l):∃a cap,sv= .slice a l.length cap/\∀j,(h:j<l.length)->∃b off,a=some ⟨b,off,none⟩/\p b/\b<W.heap.size/\d2k W b (off+j * 3) (cellsF l[j]):=by
 obtain⟨a,cap,e,h⟩:=h;exact⟨a,cap,e,fun j hj=>h j _ (aP hj)⟩
theorem threeF{W:World}{b o:Nat}{f:Fd}(h:d2k W b o (cellsF f)):W.cell? ⟨b,o,none⟩=some (S f.tb)/\W.cell? ⟨b,o+1,none⟩=some (S f.n)/\W.cell? ⟨b,o+2,none⟩=some (.int .i64 f.t):=⟨h 0 _ rfl,h 1 _ rfl,h 2 _ rfl⟩
theorem fIndex0_any{W:World}{_bx:Nat}{a:Option Addr}{cap:Nat}{l:List Fd}{p:Nat->Prop}{g:FuncId}{pr:Fd->Bool}(hlen:l.length<=1000000)(hen:∀(args:Array Value) (w:World),(callFunc g args).run Tryz.prog w= .ok (.enter g args) w)(hR:ReadsFd p W (.slice a l.length cap) l)
  (hf:∀(y:Fd) (W':World),Bl W W'->Calls Tryz.prog g #[FdV y] W' fun e w'=>e= .returned (.bool (pr y))/\Bl W' w'):
  Calls Tryz.prog 50 #[.slice a l.length cap,.func (.func g) #[] #[]] W fun e w'=>e= .returned (.int .i64 (idxF pr 0 l))/\Bl W w':=by
 obtain⟨a',cap',e,hc⟩:=hR.shape;obtain⟨rfl,rfl⟩:a=a'/\cap=cap':=(by simpa using e);obtain⟨R,HR⟩:∃R,Hid (idxF pr 0 l=R):=⟨_,rfl⟩
 rw[HR.o];have HC:=aB hc;have HF:=aB hf;clear hR hc hf e;go_enter Tryz.func50,Tryz.ntmps50;go_wp2_with fail;go_loopw [8] (fun i wr=>∃j:Nat,j<=l.length/\i= .int .i64 (j:Int)/\Hid (R=idxF pr j (l.drop j))/\Hid (Bl W wr)) (fun i _=>l.length-(intOf i).toNat)
 case atStart=>exact⟨0,dL _,rfl,HR.o.symm,Bl.refl W⟩
 case round=>
  obtain⟨j,hj,rfl,HD,HB⟩:=hrel;by_cases hlt:j<l.length
  ·obtain⟨b,off,rfl,-,hbl,h3⟩:=HC.o j hlt;have HDj:=aB (HD.o.trans (idxF_drop hlt));obtain⟨e0,e1,e2⟩:=threeF (h3.keep (HB.o.block b hbl));have hlt':(j:Int)<(l.length:Int):=(by omega);clear h3;generalize l[j]=y at *;obtain⟨y1,y2,y3⟩:=y;simp only at e0 e1 e2;go_wp2_with fail;refine(HF.o ⟨y1,y2,y3⟩ _ HB.o).mono ?_;rintro e w1 ⟨rfl,hb1⟩;have HB1:=aB (HB.o.call hb1);clear hb1 e0 e1 e2;cases hs:pr ⟨y1,y2,y3⟩
   ·have HN:=aB (show R=idxF pr (j+1) (l.drop (j+1)) from by rw[HDj.o,hs];rfl);clear hs;go_wp2;go_roundw
    case rel=>exact⟨j+1,by omega,by go_num,HN.o,HB1.o⟩
    case measure=>simp[intOf];omega
   ·have HN:=aB (show R=(j:Int) from by rw[HDj.o,hs];rfl);clear hs;go_wp2;go_ret;exact⟨by rw[HN.o];rfl,HB1.o⟩
  ·obtain rfl:j=l.length:=by omega
   have HN:=aB (show R= -1 from by rw[HD.o,dO];rfl);have hge:¬((l.length:Int)<(l.length:Int)):=(by omega);go_wp2;go_ret;exact⟨by rw[HN.o];rfl,HB.o⟩
theorem fContains0_any{W:World}{_bx:Nat}{a:Option Addr}{cap:Nat}{l:List Fd}{p:Nat->Prop}{g:FuncId}{pr:Fd->Bool}(hlen:l.length<=1000000)(hen:∀(args:Array Value) (w:World),(callFunc g args).run Tryz.prog w= .ok (.enter g args) w)(hR:ReadsFd p W (.slice a l.length cap) l)
  (hf:∀(y:Fd) (W':World),Bl W W'->Calls Tryz.prog g #[FdV y] W' fun e w'=>e= .returned (.bool (pr y))/\Bl W' w'):
  Calls Tryz.prog 31 #[.slice a l.length cap,.func (.func g) #[] #[]] W fun e w'=>e= .returned (.bool (l.any pr))/\Bl W w':=by
 have H1:=aB (fIndex0_any (_bx:=_bx) hlen hen hR hf);have HZ:=aB (idxF_any pr l 0);generalize l.any pr=R at *;generalize idxF pr 0 l=z at *;generalize l.length=m at *;clear hR hf hlen hen;go_enter Tryz.func31,Tryz.ntmps31;go_wp2_with fail;refine H1.o.mono ?_;rintro e w1 ⟨rfl,hb1⟩;go_wp2;go_ret;exact⟨by rw[<-HZ.o];rfl,hb1⟩
theorem fIndex1_any{W:World}{bx:Nat}{a:Option Addr}{cap:Nat}{l:List Fd}{p:Nat->Prop}{g:FuncId}{pr:Fd->Bool}(hlen:l.length<=1000000)(hen:∀(args:Array Value) (w:World),(callFunc g args).run Tryz.prog w= .ok (.enter g args) w)(hR:ReadsFd p W (.slice a l.length cap) l)
  (hf:∀(y:Fd) (W':World),Bl W W'->Calls Tryz.prog g #[FdV y,.pointer (some ⟨bx,0,none⟩)] W' fun e w'=>e= .returned (.bool (pr y))/\Bl W' w'):
  Calls Tryz.prog 50 #[.slice a l.length cap,.func (.func g) #[] #[.pointer (some ⟨bx,0,none⟩)]] W fun e w'=>e= .returned (.int .i64 (idxF pr 0 l))/\Bl W w':=by
 obtain⟨a',cap',e,hc⟩:=hR.shape;obtain⟨rfl,rfl⟩:a=a'/\cap=cap':=(by simpa using e);obtain⟨R,HR⟩:∃R,Hid (idxF pr 0 l=R):=⟨_,rfl⟩
 rw[HR.o];have HC:=aB hc;have HF:=aB hf;clear hR hc hf e;go_enter Tryz.func50,Tryz.ntmps50;go_wp2_with fail;go_loopw [8] (fun i wr=>∃j:Nat,j<=l.length/\i= .int .i64 (j:Int)/\Hid (R=idxF pr j (l.drop j))/\Hid (Bl W wr)) (fun i _=>l.length-(intOf i).toNat)
 case atStart=>exact⟨0,dL _,rfl,HR.o.symm,Bl.refl W⟩
 case round=>
  obtain⟨j,hj,rfl,HD,HB⟩:=hrel;by_cases hlt:j<l.length
  ·obtain⟨b,off,rfl,-,hbl,h3⟩:=HC.o j hlt;have HDj:=aB (HD.o.trans (idxF_drop hlt));obtain⟨e0,e1,e2⟩:=threeF (h3.keep (HB.o.block b hbl));have hlt':(j:Int)<(l.length:Int):=(by omega);clear h3;generalize l[j]=y at *;obtain⟨y1,y2,y3⟩:=y;simp only at e0 e1 e2;go_wp2_with fail;refine(HF.o ⟨y1,y2,y3⟩ _ HB.o).mono ?_;rintro e w1 ⟨rfl,hb1⟩;have HB1:=aB (HB.o.call hb1);clear hb1 e0 e1 e2;cases hs:pr ⟨y1,y2,y3⟩
   ·have HN:=aB (show R=idxF pr (j+1) (l.drop (j+1)) from by rw[HDj.o,hs];rfl);clear hs;go_wp2;go_roundw
    case rel=>exact⟨j+1,by omega,by go_num,HN.o,HB1.o⟩
    case measure=>simp[intOf];omega
   ·have HN:=aB (show R=(j:Int) from by rw[HDj.o,hs];rfl);clear hs;go_wp2;go_ret;exact⟨by rw[HN.o];rfl,HB1.o⟩
  ·obtain rfl:j=l.length:=by omega
   have HN:=aB (show R= -1 from by rw[HD.o,dO];rfl);have hge:¬((l.length:Int)<(l.length:Int)):=(by omega);go_wp2;go_ret;exact⟨by rw[HN.o];rfl,HB.o⟩
theorem fContains1_any{W:World}{bx:Nat}{a:Option Addr}{cap:Nat}{l:List Fd}{p:Nat->Prop}{g:FuncId}{pr:Fd->Bool}(hlen:l.length<=1000000)(hen:∀(args:Array Value) (w:World),(callFunc g args).run Tryz.prog w= .ok (.enter g args) w)(hR:ReadsFd p W (.slice a l.length cap) l)
  (hf:∀(y:Fd) (W':World),Bl W W'->Calls Tryz.prog g #[FdV y,.pointer (some ⟨bx,0,none⟩)] W' fun e w'=>e= .returned (.bool (pr y))/\Bl W' w'):
  Calls Tryz.prog 31 #[.slice a l.length cap,.func (.func g) #[] #[.pointer (some ⟨bx,0,none⟩)]] W fun e w'=>e= .returned (.bool (l.any pr))/\Bl W w':=by
 have H1:=aB (fIndex1_any (bx:=bx) hlen hen hR hf);have HZ:=aB (idxF_any pr l 0);generalize l.any pr=R at *;generalize idxF pr 0 l=z at *;generalize l.length=m at *;clear hR hf hlen hen;go_enter Tryz.func31,Tryz.ntmps31;go_wp2_with fail;refine H1.o.mono ?_;rintro e w1 ⟨rfl,hb1⟩;go_wp2;go_ret;exact⟨by rw[<-HZ.o];rfl,hb1⟩
theorem bfound1_any{W:World}{bx:Nat}{k v1 v2 o:Int}{v3 t n:List UInt8}{s:Value}(hx:W.heap[bx]?=some (.cells (qD (.mk k (v1,v2,v3) t n o []) s).toArray 47 (0,0)))(l:List Ex)(y:Fd):
  Calls Tryz.prog 85 #[FdV y,.pointer (some ⟨bx,0,none⟩)] W fun e w'=>e= .returned (.bool (isFd (.mk k (v1,v2,v3) t n o l) y))/\Bl W w':=by
 obtain⟨y1,y2,y3⟩:=y;have e4:W.cell? ⟨bx,4,none⟩=some (S t):=(by rw[aG hx];rfl);have e5:W.cell? ⟨bx,5,none⟩=some (S n):=(by rw[aG hx];rfl);have hbx:bx<W.heap.size:=(aC.1 hx).1;have HV:Hid (isFd (.mk k (v1,v2,v3) t n o l) ⟨y1,y2,y3⟩=((y2==n)&&((t==[])||(y1==t)))):=rfl;rw[HV.o];clear hx HV;cases h1:(y2==n)
 ·cases h2:(y1==t)
  ·cases t
   ·skip
    go_enter Tryz.func85,Tryz.ntmps85;go_wp2;go_ret;exact⟨rfl,(Bl.refl W).alloc _⟩
   ·skip
    go_enter Tryz.func85,Tryz.ntmps85;go_wp2;go_ret;exact⟨rfl,(Bl.refl W).alloc _⟩
  ·cases t
   ·skip
    go_enter Tryz.func85,Tryz.ntmps85;go_wp2;go_ret;exact⟨rfl,(Bl.refl W).alloc _⟩
   ·skip
    go_enter Tryz.func85,Tryz.ntmps85;go_wp2;go_ret;exact⟨rfl,(Bl.refl W).alloc _⟩
 ·cases h2:(y1==t)
  ·cases t
   ·skip
    go_enter Tryz.func85,Tryz.ntmps85;go_wp2;go_ret;exact⟨rfl,(Bl.refl W).alloc _⟩
   ·skip
    go_enter Tryz.func85,Tryz.ntmps85;go_wp2;go_ret;exact⟨rfl,(Bl.refl W).alloc _⟩
  ·cases t
   ·skip
    go_enter Tryz.func85,Tryz.ntmps85;go_wp2;go_ret;exact⟨rfl,(Bl.refl W).alloc _⟩
   ·skip
    go_enter Tryz.func85,Tryz.ntmps85;go_wp2;go_ret;exact⟨rfl,(Bl.refl W).alloc _⟩
theorem enters_bfound1(args:Array Value)(w:World):(callFunc 85 args).run Tryz.prog w= .ok (.enter 85 args) w:=by simp[go_sem]
end
section
theorem fields_drop{W:World}{fa:Option Addr}{fc:Nat}{fs:List Fd}(h:ReadsFd (fun _=>True) W (.slice fa fs.length fc) fs)(k:Nat)(c:Nat):ReadsFd (fun _=>True) W (.slice (Option.map (fun x=>x.add (k * 3)) fa) (fs.length-k) c) (fs.drop k):=by
 obtain⟨a,cap,e,hc⟩:=h;obtain⟨rfl,rfl⟩:fa=a/\fc=cap:=(by simpa using e);refine⟨_,c,by rw[List.length_drop],fun j f hf=>?_⟩;rw[iE] at hf;obtain⟨b,off,rfl,hp,hl,h3⟩:=hc (k+j) f hf;refine⟨b,off+k * 3,by simp[dY],hp,hl,?_⟩;rw[show off+k * 3+j * 3=off+(k+j) * 3 by omega];exact h3
theorem fields_nil(W:World)(a:Option Addr)(c:Nat):ReadsFd (fun _=>True) W (.slice a 0 c) []:=⟨a,c,rfl,fun j f hf=>by simp at hf⟩
theorem bfound_any(x:Ex)(fs:List Fd)(hlen:fs.length<=1000000)(W:World)(fa:Option Addr)(fc:Nat)(hcap:fs.length<=fc)(s:Value)(hR:ReadsFd (fun _=>True) W (.slice fa fs.length fc) fs)(hsv:∃a n c,s= .slice a n c):
  Calls Tryz.prog 55 #[.slice fa fs.length fc,EV x.k x.v x.t x.n x.o s] W fun e w'=>e=resT (foundR x fs)/\Bl W w':=by
 obtain⟨sa,sn,sc,rfl⟩:=hsv;obtain⟨k,⟨v1,v2,v3⟩,t,n,o,l⟩:=x;have HI:Hid (∀W0 bx,Bl W W0->W0.heap[bx]?=some (.cells (qD (.mk k (v1,v2,v3) t n o []) (.slice sa sn sc)).toArray 47 (0,0))->Calls Tryz.prog 50 #[.slice fa fs.length fc,.func (.func 85) #[] #[.pointer (some ⟨bx,0,none⟩)]] W0 fun e w'=>e= .returned (.int .i64 (idxF (isFd (.mk k (v1,v2,v3) t n o l)) 0 fs))/\Bl W0 w'):=fun W0 bx hb hx=>
  fIndex1_any hlen enters_bfound1 (hR.bl hb) fun y W' hb'=>bfound1_any (keep_b hx hb') l y
 obtain⟨R,HR⟩:∃R,Hid (foundR (.mk k (v1,v2,v3) t n o l) fs=R):=⟨_,rfl⟩
 rw[HR.o];have HX0:=aB (aN W (.cells (qD (.mk k (v1,v2,v3) t n o []) (.slice sa sn sc)).toArray 47));have HB0:=aB ((Bl.refl W).alloc (.cells (qD (.mk k (v1,v2,v3) t n o []) (.slice sa sn sc)).toArray 47));rcases idxF_at (isFd (.mk k (v1,v2,v3) t n o l)) fs 0 with⟨hz,hall⟩|⟨k0,hk0,hz,hp0,hpre⟩
 ·rw[hz] at HI;have HV:=aB (show R=(0,300) from by rw[<-HR.o,found_none hall]);clear hz hall HR hR hlen;go_enter Tryz.func55,Tryz.ntmps55;go_wp2_with fail;refine(HI.o _ W.heap.size HB0.o HX0.o).mono ?_;rintro e w1 ⟨rfl,hb1⟩;go_wp2_with fail
  (with_reducible refine(bmust_no _ _).mono ?_)
  rintro e w2 ⟨rfl,rfl⟩;go_wp2;exact⟨rfl,by rw[HV.o];rfl,HB0.o.call hb1⟩
 ·rw[hz,gD] at HI;have HO:=aB (fun h=>found_one (x:= .mk k (v1,v2,v3) t n o l) hk0 hp0 hpre h);have HT:=aB (fun h=>found_two (x:= .mk k (v1,v2,v3) t n o l) hk0 hp0 hpre h);rw[HR.o] at HO HT;have hkl:(k0:Int)<(fs.length:Int):=(by omega);clear hz hp0 hpre HR;by_cases hfc:fc=k0+1
  ·have hl:fs.length=k0+1:=by omega
   have HV:=aB (HO.o (by rw[List.drop_of_length_le (by omega)];rfl));have HN:Hid (∀W0 bx (a:Option Addr) (c:Nat),W0.heap[bx]?=some (.cells (qD (.mk k (v1,v2,v3) t n o []) (.slice sa sn sc)).toArray 47 (0,0))->Calls Tryz.prog 31 #[.slice a 0 c,.func (.func 85) #[] #[.pointer (some ⟨bx,0,none⟩)]] W0 fun e w'=>e= .returned (.bool false)/\Bl W0 w'):=fun W0 bx a c hx=>
    fContains1_any (pr:=isFd (.mk k (v1,v2,v3) t n o l)) (l:=[]) (by simp) enters_bfound1 (fields_nil W0 a c) fun y W' hb'=>bfound1_any (keep_b hx hb') l y
   have gk:(k0:Int)<=1000000:=(by omega);subst hfc;rw[hl] at HI⊢;clear hl HO HT hR hk0 hlen hcap;go_enter Tryz.func55,Tryz.ntmps55;go_wp2_with fail;refine(HI.o _ W.heap.size HB0.o HX0.o).mono ?_;rintro e w1 ⟨rfl,hb1⟩;have HB1:=aB (HB0.o.call hb1);have HX1:=aB (keep_b HX0.o hb1);clear hb1;go_wp2_with fail
   (with_reducible refine(bmust_yes _ _).mono ?_)
   rintro e w2 ⟨rfl,rfl⟩;go_wp2_with fail;refine(HN.o _ W.heap.size _ _ HX1.o).mono ?_;rintro e w3 ⟨rfl,hb3⟩;go_wp2_with fail
   (with_reducible refine(bmust_yes _ _).mono ?_)
   rintro e w4 ⟨rfl,rfl⟩;go_wp2;go_ret;exact⟨by rw[HV.o];rfl,HB1.o.call hb3⟩
  ·have HN:Hid (∀W0 bx,Bl W W0->W0.heap[bx]?=some (.cells (qD (.mk k (v1,v2,v3) t n o []) (.slice sa sn sc)).toArray 47 (0,0))->Calls Tryz.prog 31 #[.slice (Option.map (fun x=>x.add ((k0+1) * 3)) fa) (fs.length-(k0+1)) (fc-(k0+1)),.func (.func 85) #[] #[.pointer (some ⟨bx,0,none⟩)]] W0 fun e w'=>e= .returned (.bool ((fs.drop (k0+1)).any (isFd (.mk k (v1,v2,v3) t n o l))))/\Bl W0 w'):=fun W0 bx hb hx=>by
    have h:=fContains1_any (W:=W0) (bx:=bx) (a:=Option.map (fun x=>x.add ((k0+1) * 3)) fa) (cap:=fc-(k0+1)) (pr:=isFd (.mk k (v1,v2,v3) t n o l)) (l:=fs.drop (k0+1)) (by rw[List.length_drop];omega) enters_bfound1 (by rw[List.length_drop];exact fields_drop (hR.bl hb) (k0+1) _) fun y W' hb'=>bfound1_any (keep_b hx hb') l y;rw[List.length_drop] at h;exact h
   generalize (fs.drop (k0+1)).any (isFd (.mk k (v1,v2,v3) t n o l))=an at *;clear hR;cases an
   ·have HV:=aB (HO.o rfl);clear HO HT;go_enter Tryz.func55,Tryz.ntmps55;go_wp2_with fail;refine(HI.o _ W.heap.size HB0.o HX0.o).mono ?_;rintro e w1 ⟨rfl,hb1⟩;have HB1:=aB (HB0.o.call hb1);have HX1:=aB (keep_b HX0.o hb1);clear hb1;go_wp2_with fail
    (with_reducible refine(bmust_yes _ _).mono ?_)
    rintro e w2 ⟨rfl,rfl⟩;go_wp2_with fail;refine(HN.o _ W.heap.size HB1.o HX1.o).mono ?_;rintro e w3 ⟨rfl,hb3⟩;go_wp2_with fail
    (with_reducible refine(bmust_yes _ _).mono ?_)
    rintro e w4 ⟨rfl,rfl⟩;go_wp2;go_ret;exact⟨by rw[HV.o];rfl,HB1.o.call hb3⟩
   ·have HV:=aB (HT.o rfl);clear HO HT;go_enter Tryz.func55,Tryz.ntmps55;go_wp2_with fail;refine(HI.o _ W.heap.size HB0.o HX0.o).mono ?_;rintro e w1 ⟨rfl,hb1⟩;have HB1:=aB (HB0.o.call hb1);have HX1:=aB (keep_b HX0.o hb1);clear hb1;go_wp2_with fail
    (with_reducible refine(bmust_yes _ _).mono ?_)
    rintro e w2 ⟨rfl,rfl⟩;go_wp2_with fail;refine(HN.o _ W.heap.size HB1.o HX1.o).mono ?_;rintro e w3 ⟨rfl,hb3⟩;go_wp2_with fail
    (with_reducible refine(bmust_no _ _).mono ?_)
    rintro e w4 ⟨rfl,rfl⟩;go_wp2;exact⟨rfl,by rw[HV.o];rfl,HB1.o.call hb3⟩
end
section
def seqD:List (Bd×Int)->List Bd×Int
 |[]=>([],0)
 |y::r=>if y.2≠0 then([],y.2) else if(seqD r).2≠0 then([],(seqD r).2) else(y.1::(seqD r).1,0)
theorem binds_seq(fs:List Fd):∀l:List Ex,bindsD fs l=seqD (l.map (bindD fs))
 |[]=>rfl
 |x::r=>by
  simp only[bindsD,kP,seqD,binds_seq fs r]
theorem seqD_ok:∀{l:List (Bd×Int)},(∀y∈l,y.2=0)->seqD l=(l.map (·.1),0)
 |[],_=>rfl
 |y::r,h=>by
  have h1:=h y (by simp);have h2:=seqD_ok (l:=r) fun z hz=>h z (List.mem_cons_of_mem _ hz);simp[seqD,h1,h2]
theorem seqD_bad:∀{l:List (Bd×Int)} {j:Nat} (hj:j<l.length),(∀y∈l.take j,y.2=0)->l[j].2≠0->seqD l=([],l[j].2)
 |[],_,hj,_,_=>by cases hj
 |y::r,0,_,_,h=>by
  have h:y.2≠0:=h;simp only[seqD,jB];rw[if_pos h]
 |y::r,j+1,hj,ha,h=>by
  have h1:y.2=0:=ha y (by simp);have h2:=seqD_bad (l:=r) (j:=j) (by simpa using hj) (fun z hz=>ha z (by simp[hz])) (by simpa using h);simp only[seqD,List.getElem_cons_succ];rw[if_neg (fun e=>e h1),h2];simp only;rw[if_pos (by simpa using h)]
theorem ReadsDL.of{p q:Nat->Prop}{W:World}{sv:Value}{l:List Bd}(h:ReadsDL p W sv l)(hm:∀b,b<W.heap.size->p b->q b):ReadsDL q W sv l:=by
 induction h with
 |mk a cap l s h1 _ ih=>
  refine .mk a cap l s (fun j x hx=>?_) ih;obtain⟨b,off,e,hp,hl,hc⟩:=h1 j x hx;exact⟨b,off,e,hm b hl hp,hl,hc⟩
theorem ReadsDL.own{m:Nat}{v v':Value}{A B:World}{sv:Value}{l:List Bd}(h:ReadsDL (fun b=>m<=b/\some b≠v.ownBlock) A sv l)(hg:A.grownBy B v.ownBlock)(hat:v'.ownBlock=v.ownBlock\/v'.ownBlock=some A.heap.size):ReadsDL (fun b=>m<=b/\some b≠v'.ownBlock) B sv l:=
 (h.of (q:=fun b=>(m<=b/\some b≠v.ownBlock)/\some b≠v'.ownBlock) fun b hl hb=>⟨hb,by
  rcases hat with e|e
  ·rw[e];exact hb.2
  ·rw[e];intro h;injection h with h;omega⟩).keep hg.4 (fun b hb=>⟨hb.1.1,hb.2⟩) fun b hb hl=>hg.block b hl hb.1.2
theorem own_bounds{W:World}{base:Nat}{v:Value}{l:List (Bd×Value)}(h:W.ownsRow base 30 9 v l.length (l.flatMap fun q:Bd×Value=>cells9 q.1 q.2))(hr:∀q∈l,ReadsDL (fun b=>base<=b) W q.2 q.1.args):ReadsDL (fun b=>base<=b) W v (l.map (·.1)):=by
 obtain⟨a,cap,e,-,hc⟩:=own_list (fun q:Bd×Value=>cells9 q.1 q.2) (fun _=>rfl) h;subst e;rw[show l.length=(l.map (·.1)).length by simp];have hs:∀(j:Nat) (q:Bd×Value),l[j]?=some q->((l[j]?).map (fun q:Bd×Value=>q.2)).getD (Value.slice none 0 0)=q.2:=fun j q hq=>(by rw[hq];rfl);refine .mk a cap (l.map (·.1)) (fun j=>((l[j]?).map (fun q:Bd×Value=>q.2)).getD (Value.slice none 0 0)) (fun j x hx=>?_) (fun j x hx=>?_)
 ·rw[iJ] at hx;obtain⟨q,hq,rfl⟩:=aT.1 hx;obtain⟨b,e1,h1,h2,h3⟩:=hc j q hq;refine⟨b,0,e1,h1,h2,?_⟩;show d2k W b (0+j * 9) (cells9 q.1 (((l[j]?).map (fun q:Bd×Value=>q.2)).getD (Value.slice none 0 0)));rw[hs j q hq];exact h3
 ·rw[iJ] at hx;obtain⟨q,hq,rfl⟩:=aT.1 hx;show ReadsDL _ W (((l[j]?).map (fun q:Bd×Value=>q.2)).getD (Value.slice none 0 0)) _;rw[hs j q hq];exact hr q (dJ hq)
def BndP(r:Bd×Int)(W:World)(e:Ending)(w':World):Prop:=
 (r.2=0/\(∃v,e= .returned v/\ReadsDP (fun b=>W.heap.size<=b) w' r.1 v)\/r.2≠0/\e=panE r.2)/\Bl W w'
def OwnD(base:Nat)(r:List Bd×Int)(W:World)(e:Ending)(w':World):Prop:=
 (r.2=0/\(∃v,e= .returned v/\ReadsDL (fun b=>base<=b) w' v r.1)\/r.2≠0/\e=panE r.2)/\Bl W w'
theorem bd1:(Tryz.prog.info? 30).map (fun i=>(i.zero.isSome,i.size))=some (true,9):=by kernel_rfl
theorem bsomeX_any{l:List Ex}{f:Ex->Bd×Int}{a:Option Addr}{cap bx:Nat}(hfew:l.length<=1000000)(W:World)(hR:gU W (.slice a l.length cap) l)(hen:∀(args:Array Value) (w:World),(callFunc 54 args).run Tryz.prog w= .ok (.enter 54 args) w)
  (hf:∀y∈l,∀(W':World) (v:Value),Bl W W'->eO W' y v->Calls Tryz.prog 54 #[v,.pointer (some ⟨bx,0,none⟩)] W' (BndP (f y) W')):
  Calls Tryz.prog 53 #[.slice a l.length cap,.func (.func 54) #[] #[.pointer (some ⟨bx,0,none⟩)]] W (OwnD W.heap.size (seqD (l.map f)) W):=by
 obtain⟨a',cap',e,hc⟩:=hR.shape;obtain⟨rfl,rfl⟩:a=a'/\cap=cap':=(by simpa using e);have HC:=aB hc;have HF1:=aB hf;have hlf:(l.map f).length=l.length:=(by simp);obtain⟨R,HR⟩:∃R,Hid (seqD (l.map f)=R):=⟨_,rfl⟩
 rw[HR.o];clear hR hc e hf;go_enter Tryz.func53,Tryz.ntmps53;go_wp2_with fail;go_loopw [4,9] (fun ts i wr=>∃(j:Nat) (v0:Value) (acc:List (Bd×Value)),v0=ts/\j<=l.length/\acc.length=j/\i= .int .i64 (j:Int)/\Hid (acc.map (·.1)=(l.map fun y=>(f y).1).take j)/\Hid (wr.ownsRow W.heap.size 30 9 v0 acc.length (acc.flatMap fun q:Bd×Value=>cells9 q.1 q.2))/\Hid (∀q∈acc,ReadsDL (fun b=>W.heap.size<=b/\some b≠v0.ownBlock) wr q.2 q.1.args)/\Hid (∀y∈(l.map f).take j,y.2=0)/\Hid (Bl W wr)) (fun _ i _=>l.length-(intOf i).toNat)
 case atStart=>exact⟨0,_,[],rfl,dL _,rfl,rfl,rfl,d2l _ _ _ _,aB (fun q hq=>by cases hq),aB (fun y hy=>by simp at hy),Bl.refl W⟩
 case round=>
  obtain⟨j,v0,acc,rfl,hj,hal,rfl,HAC,HO,HTR,HOK,HB⟩:=hrel;by_cases hlt:j<l.length
  ·obtain⟨b,off,s,rfl,h8,hr⟩:=HC.o j hlt;have hbl:b<W.heap.size:=(by have:=bB _ _ h8.1;simpa using this);have HM:=aB (dS hlt);have HJ:=aB (show(l.map f)[j]'(by simpa using hlt)=f l[j] from by simp);have HSN:=aB (show(l.map fun y=>(f y).1).take (j+1)=(l.map fun y=>(f y).1).take j++[(f l[j]).1] from by
    rw[takeD_snoc (l.map fun y=>(f y).1) (by simpa using hlt),List.getElem_map])
   have HBAD:=aB (fun h=>seqD_bad (l:=l.map f) (j:=j) (by simpa using hlt) HOK.o h);have HGO:=aB (fun(h:(f l[j]).2=0)=>(show ∀y∈(l.map f).take (j+1),y.2=0 from fun y hy=>by
    rw[takeD_snoc (l.map f) (by simpa using hlt)] at hy;rcases iX.1 hy with hy|hy
    ·exact HOK.o y hy
    ·rw[gQ.1 hy,List.getElem_map];exact h))
   rw[HJ.o,HR.o] at HBAD;obtain⟨asl,cs,rfl,-⟩:=hr.shape;have HRR:=aB (hr.bl HB.o);obtain⟨e0,e1,e2,e3,e4,e5,e6,e7⟩:=At8.keep h8 (HB.o.block b hbl);have HFY:=aB (HF1.o _ HM.o);clear h8 hr HJ HM;generalize hy:l[j]=y at *;clear hy;generalize f y=ry at *;obtain⟨⟨k',t',⟨v1',v2',v3'⟩,p',o',n',args'⟩,c⟩:=ry;obtain⟨xk,⟨x1,x2,x3⟩,xt,xn,xo,xa⟩:=y;simp only[Ex.k,Ex.t,Ex.v,Ex.o,Ex.n,Ex.args] at e0 e1 e2 e3 e4 e5 e6 e7 HRR;have HA0:=aB ((Bl.refl wr).alloc (.cells #[.int .i64 xk,.int .i64 x1,.int .i64 x2,S x3,S xt,S xn,.int .i64 xo,.slice asl xa.length cs] 47));have HW0:=aB (HB.o.call HA0.o);have HCL:=aB (HFY.o _ (EV xk (x1,x2,x3) xt xn xo (.slice asl xa.length cs)) HW0.o ⟨_,rfl,HRR.o.bl HA0.o⟩);have hlt':(j:Int)<(l.length:Int):=(by omega);clear HFY HRR;go_wp2_with fail;refine HCL.o.mono ?_;rintro e w1 ⟨⟨hc0,v',rfl,hrd⟩|⟨hc0,rfl⟩,hb1⟩
   ·have HG2:=aB (HGO.o hc0);have HB1:=aB (HW0.o.call hb1);have hsz0:W.heap.size<=wr.heap.size:=HB.o.size;obtain⟨s',rfl,hrl⟩:=hrd;simp only[Bd.args] at hrl;obtain⟨sa',sc',rfl,-⟩:=id hrl.shape;have HO0:=aB (gY (HA0.o.call hb1) HO.o);have HTR0:=aB (show ∀q∈acc,ReadsDL (fun b=>W.heap.size<=b/\some b≠v0.ownBlock) w1 q.2 q.1.args from fun q hq=>(HTR.o q hq).bl (HA0.o.call hb1));have hlow:=aB HO.o.lt;have HZ:=aB (show ReadsDL (fun b=>W.heap.size<=b/\some b≠v0.ownBlock) w1 (.slice sa' args'.length sc') args' from hrl.of fun b hl (hb:_<=b)=>⟨by rw[aR] at hb;omega,fun e=>by have:=(hlow.o b e.symm).2;rw[aR] at hb;omega⟩);clear hc0 hb1 hrl HGO HBAD e0 e1 e2 e3 e4 e5 e6 e7 HCL;go_wp2_with (first |(refine d8l (vs:=[.int .i64 k',.int .i64 t',.int .i64 v1',.int .i64 v2',S v3',.int .i64 p',.int .i64 o',S n',.slice sa' args'.length sc']) rfl (t:=28) (y:= .tmp 16) rfl Tryz.underlying28 rfl bd1 rfl ?_)|(at_builtin;refine wpList_append_row rfl (.tmp 13) (.tmp 17) rfl bdFull Tryz.underlying28 rfl (by decide) (by decide) W.heap.size _ acc.length _ rfl (gY ((Bl.refl _).alloc _) HO0.o) w1.heap.size [.int .i64 k',.int .i64 t',.int .i64 v1',.int .i64 v2',S v3',.int .i64 p',.int .i64 o',S n',.slice sa' args'.length sc'] rfl (aN w1 _) rfl rfl (by omega) (by have:=HB1.o.size;rw[aR];omega) ?_))
    intro v2 w2 hown2 hg2 hat;have HB2:=aB (iL (HB1.o.alloc (.cells #[.int .i64 k',.int .i64 t',.int .i64 v1',.int .i64 v2',S v3',.int .i64 p',.int .i64 o',S n',.slice sa' args'.length sc'] 30)) hg2 (by have:=HB1.o.size;rw[aR];omega) (fun i hi=>(hlow.o i hi).1));have HTR2:=aB (show ∀q∈acc++[(Bd.mk k' t' (v1',v2',v3') p' o' n' args',Value.slice sa' args'.length sc')],ReadsDL (fun b=>W.heap.size<=b/\some b≠v2.ownBlock) w2 q.2 q.1.args from fun q hq=>by rcases iX.1 hq with hq|hq;exact((HTR0.o q hq).bl ((Bl.refl _).alloc _)).own hg2 (by simpa using hat);obtain rfl:=gQ.1 hq;exact(HZ.o.bl ((Bl.refl _).alloc _)).own hg2 (by simpa using hat));have HO2:=aB (show w2.ownsRow W.heap.size 30 9 v2 (acc++[(Bd.mk k' t' (v1',v2',v3') p' o' n' args',Value.slice sa' args'.length sc')]).length ((acc++[(Bd.mk k' t' (v1',v2',v3') p' o' n' args',Value.slice sa' args'.length sc')]).flatMap fun q:Bd×Value=>cells9 q.1 q.2) from by rw[bD,List.flatMap_append,hal];exact hown2);have HAC2:=aB (show(acc++[(Bd.mk k' t' (v1',v2',v3') p' o' n' args',Value.slice sa' args'.length sc')]).map (·.1)=(l.map fun y=>(f y).1).take (j+1) from by rw[HSN.o,kW,HAC.o];rfl);clear hown2 hg2 hat;go_wp2;go_roundw
    case rel=>exact⟨j+1,_,acc++[(Bd.mk k' t' (v1',v2',v3') p' o' n' args',Value.slice sa' args'.length sc')],rfl,by omega,by rw[bD,hal];rfl,by go_num,HAC2.o,HO2.o,HTR2.o,HG2.o,HB2.o⟩
    case measure=>simp[intOf];omega
   ·have HR2:=aB (show R=([],c) from HBAD.o hc0);have HCC:=aB hc0;have HB1:=aB (HW0.o.call hb1);clear hc0 hb1 HGO HBAD;go_wp2;exact⟨rfl,.inr ⟨by rw[HR2.o];exact HCC.o,by rw[HR2.o]⟩,HB1.o⟩
  ·obtain rfl:j=l.length:=by omega
   have HAL:=aB (show ∀y∈l.map f,y.2=0 from fun y hy=>HOK.o y (by rw[jS (by simp)];exact hy));have HR2:=aB (show R=(l.map fun y=>(f y).1,0) from(HR.o.symm.trans (seqD_ok HAL.o)).trans (by rw[List.map_map];rfl));have HV:Hid (ReadsDL (fun b=>W.heap.size<=b) wr v0 (l.map fun y=>(f y).1)):=by
    have h:=own_bounds HO.o (fun q hq=>(HTR.o q hq).of fun b _ hb=>hb.1);rw[HAC.o,jS (by simp)] at h;exact h
   have hge:¬((l.length:Int)<(l.length:Int)):=(by omega);obtain⟨va,vc,hva,-⟩:=HV.o.shape;rw[mD] at hva;subst hva;clear HO HOK HAL HC HF1 HTR HAC;go_wp2;go_ret;exact⟨.inl ⟨by rw[HR2.o],_,rfl,by rw[HR2.o];exact HV.o⟩,HB.o⟩
end
end Go.Proofs.YtkimpcmkminffaaGreatDoor
