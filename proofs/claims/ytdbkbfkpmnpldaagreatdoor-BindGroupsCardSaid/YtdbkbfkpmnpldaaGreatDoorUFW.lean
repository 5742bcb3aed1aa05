/- Texts beside the shared ones. -/
import Derived.Test.YtdbkbfkpmnpldaaGreatDoorNS
import Derived.Test.YtdbkbfkpmnpldaaGreatDoorNA
import Derived.Test.YtdbkbfkpmnpldaaGreatDoorNB
import Derived.Test.YtdbkbfkpmnpldaaGreatDoorNC
import Derived.Test.YtdbkbfkpmnpldaaGreatDoorNX
import Derived.Test.YtdbkbfkpmnpldaaGreatDoorNI
import Derived.Test.YtdbkbfkpmnpldaaGreatDoorND
import Derived.Test.YtdbkbfkpmnpldaaGreatDoorNE
import Derived.Test.YtdbkbfkpmnpldaaGreatDoorWXS
import Derived.Test.YtdbkbfkpmnpldaaGreatDoorWX0
import Derived.Test.YtdbkbfkpmnpldaaGreatDoorWM1
import Derived.Test.YtdbkbfkpmnpldaaGreatDoorWM2
import Derived.Test.YtdbkbfkpmnpldaaGreatDoorWCA
import Derived.Test.YtdbkbfkpmnpldaaGreatDoorWM3
import Derived.Test.YtdbkbfkpmnpldaaGreatDoorWM4
import Derived.Test.YtdbkbfkpmnpldaaGreatDoorWM5
import Derived.Test.YtdbkbfkpmnpldaaGreatDoorWM6
import Derived.Test.YtdbkbfkpmnpldaaGreatDoorWM7
import Derived.Test.YtdbkbfkpmnpldaaGreatDoorWM8
import Derived.Test.YtdbkbfkpmnpldaaGreatDoorWM9
import Derived.Test.YtdbkbfkpmnpldaaGreatDoorWFA
import Derived.Test.YtdbkbfkpmnpldaaGreatDoorWFB
import Derived.Test.YtdbkbfkpmnpldaaGreatDoorWFC
import Derived.Test.YtdbkbfkpmnpldaaGreatDoorWOB
import Derived.Test.YtdbkbfkpmnpldaaGreatDoorVX0
import Derived.Test.YtdbkbfkpmnpldaaGreatDoorVBY
import Derived.Test.YtdbkbfkpmnpldaaGreatDoorVOV
import Derived.Test.YtdbkbfkpmnpldaaGreatDoorVFD
import Derived.Test.YtdbkbfkpmnpldaaGreatDoorVFE
import Derived.Test.YtdbkbfkpmnpldaaGreatDoorVFG
import Derived.Test.YtdbkbfkpmnpldaaGreatDoorVFI
import Derived.Test.YtdbkbfkpmnpldaaGreatDoorVFJ
import Derived.Test.YtdbkbfkpmnpldaaGreatDoorVFH
import Derived.Test.YtdbkbfkpmnpldaaGreatDoorVFO
import Derived.Test.YtdbkbfkpmnpldaaGreatDoorVFP
import Derived.Test.YtdbkbfkpmnpldaaGreatDoorVFR
import Derived.Test.YtdbkbfkpmnpldaaGreatDoorVFS
import Derived.Test.YtdbkbfkpmnpldaaGreatDoorVFT
import Derived.Test.YtdbkbfkpmnpldaaGreatDoorUFU
import Derived.Test.YtdbkbfkpmnpldaaGreatDoorUGS
namespace Go.Proofs.YtdbkbfkpmnpldaaGreatDoor
open Go.RowKit
open _root_.Bool renaming and_eq_true->aQ
open _root_.Go.Lib renaming hid->aB
open _root_.List renaming all_eq_true->jA
open _root_.Nat renaming le_refl->aH
set_option maxRecDepth 100000
set_option maxHeartbeats 8000000
section
theorem bgroups_all(b:Bd)(rows:List (List Vl))(W:World)(v:Value)(ra:Option Addr)(rc:Nat)(hm:rows.length<=9223372036854775807)(hrc:rows.length<=rc)(hv:ReadsD W b v)(hr:ReadsRw (fun _=>True) W (.slice ra rows.length rc) rows)(hi:i64D b)(hint:∀r∈rows,∀v∈r,Int2 v)(hG:nD W):Calls Tryz.prog 4 #[v,.slice ra rows.length rc] W (Yes W):=by
 have HS1:Hid (∀W',Bl W W'->Calls Tryz.prog 8 #[v,.int .i64 40] W' fun e w'=>e= .returned (.int .i64 (sizeV 1100 40 b:Int))/\Bl W' w'):=fun W' hb=>size20_any _ b (aH _) 40 40 W' v rfl (by omega) (hv.bl hb);have HWO:Hid (∀W',Bl W W'->Calls Tryz.prog 9 #[] W' fun e w'=>e= .returned (.bool true)/\Bl W' w'):=fun W' hb=>works20_any W' (hG.bl hb);have HSL:Hid (∀(W':World),Bl W W'->Calls Tryz.prog 15 #[.slice ra rows.length rc] W' fun e w'=>e= .returned (.bool (smallB rows))/\W'=w'):=fun W' hb=>small20_big rows hm W' _ _ (hr.bl hb);by_cases h1:40<sizeV 1100 40 b
 ·generalize sizeV 1100 40 b=z1 at *;clear hG hr hi hint;generalize rows.length=q at *;obtain⟨sv,rfl,hL⟩:=hv;obtain⟨a1,cap,rfl,-⟩:=hL.shape;clear hL;obtain⟨k,t,⟨v1,v2,v3⟩,p,o,n,args⟩:=b;simp only[Bd.k,Bd.t,Bd.v,Bd.p,Bd.o,Bd.n,Bd.args] at *;generalize args.length=m at *;have HF0:=aB (LwF.start (cellsB k t v1 v2 v3 p o n (.slice a1 m cap)) W);obtain⟨e0,e1,e2,e3,e4,e5,e6,e7,e8⟩:=nine HF0.o.x;have g1:(40:Int)<(z1:Int):=(by omega);clear h1 HSL;go_enter Tryz.func4,Tryz.ntmps4;go_wp2_with fail;refine(HS1.o _ HF0.o.bl).mono ?_;rintro e w1 ⟨rfl,hb1⟩;have HF1:=aB (HF0.o.call hb1);clear hb1 e0 e1 e2 e3 e4 e5 e6 e7 e8;go_wp2_with fail;refine(HWO.o _ (HF1.o).bl).mono ?_;rintro e w9 ⟨rfl,hb9⟩;go_wp2;go_ret;exact⟨by first |rfl|trivial,(HF1.o).bl.call hb9⟩
 have hpb:=(sV_parts 1100 40 b (by omega)).1;have hpp:partsD b<=40:=(by omega);cases hsb:smallB rows
 ·rw[hsb] at HSL;generalize sizeV 1100 40 b=z1 at *;clear hG hr hi hint hsb hpb hpp;generalize rows.length=q at *;obtain⟨sv,rfl,hL⟩:=hv;obtain⟨a1,cap,rfl,-⟩:=hL.shape;clear hL;obtain⟨k,t,⟨v1,v2,v3⟩,p,o,n,args⟩:=b;simp only[Bd.k,Bd.t,Bd.v,Bd.p,Bd.o,Bd.n,Bd.args] at *;generalize args.length=m at *;have HF0:=aB (LwF.start (cellsB k t v1 v2 v3 p o n (.slice a1 m cap)) W);obtain⟨e0,e1,e2,e3,e4,e5,e6,e7,e8⟩:=nine HF0.o.x;have g1:¬(40:Int)<(z1:Int):=(by omega);clear h1;go_enter Tryz.func4,Tryz.ntmps4;go_wp2_with fail;refine(HS1.o _ HF0.o.bl).mono ?_;rintro e w1 ⟨rfl,hb1⟩;have HF1:=aB (HF0.o.call hb1);clear hb1 e0 e1 e2 e3 e4 e5 e6 e7 e8;go_wp2_with fail;refine(HSL.o _ HF1.o.bl).mono ?_;rintro e w2 ⟨rfl,rfl⟩;go_wp2_with fail;refine(HWO.o _ (HF1.o).bl).mono ?_;rintro e w9 ⟨rfl,hb9⟩;go_wp2;go_ret;exact⟨by first |rfl|trivial,(HF1.o).bl.call hb9⟩
 have hl20:rows.length<=20/\∀r∈rows,r.length<=20:=by
  unfold smallB at hsb;simp only[aQ,decide_eq_true_eq] at hsb;refine⟨hsb.2,fun r hr=>?_⟩;have:=jA.1 hsb.1 r hr;unfold smallR at this;simp only[aQ,decide_eq_true_eq] at this;exact this.1
 have HE1:Hid (∀W',Bl W W'->Calls Tryz.prog 16 #[v,.slice ra rows.length rc] W' fun e w'=>e= .returned (.tuple #[VlV (groupQ b rows).1,.int .i64 (groupQ b rows).2])/\Bl W' w'):=fun W' hb=>bGroup_any b rows (by omega) (i64D_ints hi) (by omega) (fun r hr=>by have:=hl20.2 r hr;omega) (fun r hr v hv=>(hint r hr v hv).2) W' v ra rc (hv.bl hb) (hr.bl hb);have HE2:Hid (∀W',Bl W W'->Calls Tryz.prog 17 #[v,.slice ra rows.length rc] W' fun e w'=>e= .returned (.tuple #[VlV (groupQ b rows).1,.int .i64 (groupQ b rows).2])/\Bl W' w'):=fun W' hb=>wGroup_any b rows (by omega) hi (by omega) (fun r hr=>by have:=hl20.2 r hr;omega) hint W' v ra rc hrc (hv.bl hb) (hr.bl hb);rw[hsb] at HSL;generalize sizeV 1100 40 b=z1 at *;generalize groupQ b rows=E at *;obtain⟨⟨r1,r2,r3⟩,ec⟩:=E;clear hG hr hi hint hsb hpb hpp hl20;generalize rows.length=q at *;obtain⟨sv,rfl,hL⟩:=hv;obtain⟨a1,cap,rfl,-⟩:=hL.shape;clear hL;obtain⟨k,t,⟨v1,v2,v3⟩,p,o,n,args⟩:=b;simp only[Bd.k,Bd.t,Bd.v,Bd.p,Bd.o,Bd.n,Bd.args] at *;generalize args.length=m at *;have HF0:=aB (LwF.start (cellsB k t v1 v2 v3 p o n (.slice a1 m cap)) W);obtain⟨e0,e1,e2,e3,e4,e5,e6,e7,e8⟩:=nine HF0.o.x;have g1:¬(40:Int)<(z1:Int):=(by omega);clear h1;go_enter Tryz.func4,Tryz.ntmps4;go_wp2_with fail;refine(HS1.o _ HF0.o.bl).mono ?_;rintro e w1 ⟨rfl,hb1⟩;have HF1:=aB (HF0.o.call hb1);clear hb1 e0 e1 e2 e3 e4 e5 e6 e7 e8;go_wp2_with fail;refine(HSL.o _ HF1.o.bl).mono ?_;rintro e w2 ⟨rfl,rfl⟩;obtain⟨e0,e1,e2,e3,e4,e5,e6,e7,e8⟩:=nine HF1.o.x;go_wp2_with fail;refine(HE1.o _ HF1.o.bl).mono ?_;rintro e w3 ⟨rfl,hb3⟩;have HF3:=aB ((HF1.o.call hb3).call ((Bl.refl w3).alloc (.cells #[.int .i64 r1,.int .i64 r2,S r3] 26)));have HX3:=aB (aN w3 (.cells #[.int .i64 r1,.int .i64 r2,S r3] 26));clear hb3 e0 e1 e2 e3 e4 e5 e6 e7 e8;obtain⟨n3,hn3⟩:∃n3,w3.heap.size=n3:=⟨_,rfl⟩
 go_upto_region 4 with fail
 obtain⟨u,hu⟩:∃u,w3.alloc (.cells #[.int .i64 r1,.int .i64 r2,S r3] 26)=u:=⟨_,rfl⟩
 change Code.wp _ _ _ _ (w3.alloc (.cells #[.int .i64 r1,.int .i64 r2,S r3] 26));rw[hu] at HF3 HX3⊢
 try rw[hn3] at HX3
 try rw[hn3]
 clear hu hn3;obtain⟨e0,e1,e2,e3,e4,e5,e6,e7,e8⟩:=nine HF3.o.x;go_wp2_with fail;refine(HE2.o _ HF3.o.bl).mono ?_;rintro e w4 ⟨rfl,hb4⟩;have HF4:=aB ((HF3.o.call hb4).call ((Bl.refl w4).alloc (.cells #[.int .i64 r1,.int .i64 r2,S r3] 26)));have HX4:=aB (aN w4 (.cells #[.int .i64 r1,.int .i64 r2,S r3] 26));have HX5:=aB (keep_b (keep_b HX3.o hb4) ((Bl.refl w4).alloc (.cells #[.int .i64 r1,.int .i64 r2,S r3] 26)));clear hb4 HX3 e0 e1 e2 e3 e4 e5 e6 e7 e8;obtain⟨n4,hn4⟩:∃n4,w4.heap.size=n4:=⟨_,rfl⟩
 go_upto_region 5 with fail
 obtain⟨u2,hu⟩:∃u,w4.alloc (.cells #[.int .i64 r1,.int .i64 r2,S r3] 26)=u:=⟨_,rfl⟩
 change Code.wp _ _ _ _ (w4.alloc (.cells #[.int .i64 r1,.int .i64 r2,S r3] 26));rw[hu] at HF4 HX4 HX5⊢
 try rw[hn4] at HX4
 try rw[hn4]
 clear hu hn4;obtain⟨p0,p1,p2⟩:=three3 HX4.o;obtain⟨q0,q1,q2⟩:=three3 HX5.o;go_wp2_with fail
 (with_reducible refine(num20_any _ _).mono ?_)
 rintro e w' ⟨rfl,rfl⟩;go_wp2_with fail;refine(HWO.o _ (HF4.o).bl).mono ?_;rintro e w9 ⟨rfl,hb9⟩;go_wp2;go_ret;exact⟨by first |rfl|trivial,(HF4.o).bl.call hb9⟩
end
end Go.Proofs.YtdbkbfkpmnpldaaGreatDoor
