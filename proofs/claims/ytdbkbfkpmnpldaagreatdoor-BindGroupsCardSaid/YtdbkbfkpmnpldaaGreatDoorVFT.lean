/- Texts beside the shared ones. -/
import Derived.Test.YtdbkbfkpmnpldaaGreatDoorVX0
import Derived.Test.YtdbkbfkpmnpldaaGreatDoorVFS
namespace Go.Proofs.YtdbkbfkpmnpldaaGreatDoor
open Go.RowKit
open _root_.Bool renaming and_eq_true->aQ
open _root_.Go.Lib renaming hid->aB
open _root_.Nat renaming le_refl->aH
set_option maxRecDepth 100000
set_option maxHeartbeats 8000000
section
structure LwF(c:Array Value)(W A:World):Prop where
 x:A.heap[W.heap.size]?=some (.cells c 30 (0,0))
 bl:Bl W A
theorem LwF.call{c:Array Value}{W A B:World}(h:LwF c W A)(hb:Bl A B):LwF c W B:=⟨keep_b h.x hb,h.bl.call hb⟩
theorem LwF.start(c:Array Value)(W:World):LwF c W (W.alloc (.cells c 30)):=⟨aN W _,(Bl.refl W).alloc _⟩
theorem bevals_all(b:Bd)(row:List Vl)(W:World)(v:Value)(ra:Option Addr)(rc:Nat)(hv:ReadsD W b v)(hr:ReadsVl (fun _=>True) W (.slice ra row.length rc) row)(hi:i64D b)(hint:∀v∈row,Int2 v)(hG:nD W):Calls Tryz.prog 6 #[v,.slice ra row.length rc] W (Yes W):=by
 have HS1:Hid (∀W',Bl W W'->Calls Tryz.prog 8 #[v,.int .i64 40] W' fun e w'=>e= .returned (.int .i64 (sizeV 1100 40 b:Int))/\Bl W' w'):=fun W' hb=>size20_any _ b (aH _) 40 40 W' v rfl (by omega) (hv.bl hb);have HWO:Hid (∀W',Bl W W'->Calls Tryz.prog 9 #[] W' fun e w'=>e= .returned (.bool true)/\Bl W' w'):=fun W' hb=>works20_any W' (hG.bl hb);have HSL:Hid (∀(W':World) (g:Nat),Bl W W'->W'.heap[g]?=some (.cells #[.slice ra row.length rc] 47 (0,0))->Calls Tryz.prog 15 #[.slice (some ⟨g,0,none⟩) 1 1] W' fun e w'=>e= .returned (.bool (smallB [row]))/\W'=w'):=fun W' g hb hg=>small20_any [row] (by simp) W' _ _ (one_row20 hg (hr.bl hb));by_cases h1:40<sizeV 1100 40 b
 ·generalize sizeV 1100 40 b=z1 at *;generalize smallB [row]=sb at *;clear hG hr hi hint;generalize row.length=q at *;obtain⟨sv,rfl,hL⟩:=hv;obtain⟨a1,cap,rfl,-⟩:=hL.shape;clear hL;obtain⟨k,t,⟨v1,v2,v3⟩,p,o,n,args⟩:=b;simp only[Bd.k,Bd.t,Bd.v,Bd.p,Bd.o,Bd.n,Bd.args] at *;generalize args.length=m at *;have HF0:=aB (LwF.start (cellsB k t v1 v2 v3 p o n (.slice a1 m cap)) W);obtain⟨e0,e1,e2,e3,e4,e5,e6,e7,e8⟩:=nine HF0.o.x;have g1:(40:Int)<(z1:Int):=(by omega);clear h1 HSL;go_enter Tryz.func6,Tryz.ntmps6;go_wp2_with fail;refine(HS1.o _ HF0.o.bl).mono ?_;rintro e w1 ⟨rfl,hb1⟩;have HF1:=aB (HF0.o.call hb1);clear hb1 e0 e1 e2 e3 e4 e5 e6 e7 e8;go_wp2_with fail;refine(HWO.o _ (HF1.o).bl).mono ?_;rintro e w9 ⟨rfl,hb9⟩;go_wp2;go_ret;exact⟨by first |rfl|trivial,(HF1.o).bl.call hb9⟩
 have hpb:=(sV_parts 1100 40 b (by omega)).1;have hpp:partsD b<=40:=(by omega);cases hsb:smallB [row]
 ·rw[hsb] at HSL;generalize sizeV 1100 40 b=z1 at *;clear hG hr hi hint hsb hpb hpp;generalize row.length=q at *;obtain⟨sv,rfl,hL⟩:=hv;obtain⟨a1,cap,rfl,-⟩:=hL.shape;clear hL;obtain⟨k,t,⟨v1,v2,v3⟩,p,o,n,args⟩:=b;simp only[Bd.k,Bd.t,Bd.v,Bd.p,Bd.o,Bd.n,Bd.args] at *;generalize args.length=m at *;have HF0:=aB (LwF.start (cellsB k t v1 v2 v3 p o n (.slice a1 m cap)) W);obtain⟨e0,e1,e2,e3,e4,e5,e6,e7,e8⟩:=nine HF0.o.x;have g1:¬(40:Int)<(z1:Int):=(by omega);clear h1;go_enter Tryz.func6,Tryz.ntmps6;go_wp2_with fail;refine(HS1.o _ HF0.o.bl).mono ?_;rintro e w1 ⟨rfl,hb1⟩;have HF1:=aB (HF0.o.call hb1);clear hb1 e0 e1 e2 e3 e4 e5 e6 e7 e8;have HF2:=aB (HF1.o.call ((Bl.refl w1).alloc (.cells #[.slice ra q rc] 47)));have HG2:=aB (aN w1 (.cells #[.slice ra q rc] 47));go_wp2_with fail;refine(HSL.o _ _ HF2.o.bl HG2.o).mono ?_;rintro e w2 ⟨rfl,rfl⟩;go_wp2_with fail;refine(HWO.o _ (HF2.o).bl).mono ?_;rintro e w9 ⟨rfl,hb9⟩;go_wp2;go_ret;exact⟨by first |rfl|trivial,(HF2.o).bl.call hb9⟩
 have hl20:row.length<=20:=by
  unfold smallB smallR at hsb;simp only[List.all_cons,List.all_nil,Bool.and_true,aQ,decide_eq_true_eq] at hsb;omega
 have HE1:Hid (∀W',Bl W W'->Calls Tryz.prog 19 #[v,.slice ra row.length rc] W' fun e w'=>e= .returned (.tuple #[VlV (evalQ b row).1,.int .i64 (evalQ b row).2])/\Bl W' w'):=fun W' hb=>bEval_any b row (by omega) (i64D_ints hi) (by omega) (fun v hv=>(hint v hv).2) W' v ra rc (hv.bl hb) (hr.bl hb);have HE2:Hid (∀W',Bl W W'->Calls Tryz.prog 20 #[v,.slice ra row.length rc] W' fun e w'=>e= .returned (.tuple #[VlV (evalQ b row).1,.int .i64 (evalQ b row).2])/\Bl W' w'):=fun W' hb=>wEval_any b row (by omega) hi (by omega) hint W' v ra rc (hv.bl hb) (hr.bl hb);have HT1:Hid (∀W',Bl W W'->Calls Tryz.prog 21 #[v,.slice ra row.length rc] W' fun e w'=>e= .returned (.tuple #[.int .i64 (truthQ b row).1,.int .i64 (truthQ b row).2])/\Bl W' w'):=fun W' hb=>bTruth_any b row (by omega) (i64D_ints hi) (by omega) (fun v hv=>(hint v hv).2) W' v ra rc (hv.bl hb) (hr.bl hb);have HT2:Hid (∀W',Bl W W'->Calls Tryz.prog 22 #[v,.slice ra row.length rc] W' fun e w'=>e= .returned (.tuple #[.int .i64 (truthQ b row).1,.int .i64 (truthQ b row).2])/\Bl W' w'):=fun W' hb=>wTruth_any b row (by omega) hi (by omega) hint W' v ra rc (hv.bl hb) (hr.bl hb);rw[hsb] at HSL;generalize sizeV 1100 40 b=z1 at *;generalize evalQ b row=E at *;generalize truthQ b row=T at *;obtain⟨⟨r1,r2,r3⟩,ec⟩:=E;obtain⟨tt,tc⟩:=T;clear hG hr hi hint hsb hpb hpp hl20;generalize row.length=q at *;obtain⟨sv,rfl,hL⟩:=hv;obtain⟨a1,cap,rfl,-⟩:=hL.shape;clear hL;obtain⟨k,t,⟨v1,v2,v3⟩,p,o,n,args⟩:=b;simp only[Bd.k,Bd.t,Bd.v,Bd.p,Bd.o,Bd.n,Bd.args] at *;generalize args.length=m at *;have HF0:=aB (LwF.start (cellsB k t v1 v2 v3 p o n (.slice a1 m cap)) W);obtain⟨e0,e1,e2,e3,e4,e5,e6,e7,e8⟩:=nine HF0.o.x;have g1:¬(40:Int)<(z1:Int):=(by omega);clear h1;go_enter Tryz.func6,Tryz.ntmps6;go_wp2_with fail;refine(HS1.o _ HF0.o.bl).mono ?_;rintro e w1 ⟨rfl,hb1⟩;have HF1:=aB (HF0.o.call hb1);clear hb1 e0 e1 e2 e3 e4 e5 e6 e7 e8;have HF2:=aB (HF1.o.call ((Bl.refl w1).alloc (.cells #[.slice ra q rc] 47)));have HG2:=aB (aN w1 (.cells #[.slice ra q rc] 47));go_wp2_with fail;refine(HSL.o _ _ HF2.o.bl HG2.o).mono ?_;rintro e w2 ⟨rfl,rfl⟩;obtain⟨e0,e1,e2,e3,e4,e5,e6,e7,e8⟩:=nine HF2.o.x;go_wp2_with fail;refine(HE1.o _ HF2.o.bl).mono ?_;rintro e w3 ⟨rfl,hb3⟩;have HF3:=aB ((HF2.o.call hb3).call ((Bl.refl w3).alloc (.cells #[.int .i64 r1,.int .i64 r2,S r3] 26)));have HX3:=aB (aN w3 (.cells #[.int .i64 r1,.int .i64 r2,S r3] 26));clear hb3 e0 e1 e2 e3 e4 e5 e6 e7 e8;obtain⟨n3,hn3⟩:∃n3,w3.heap.size=n3:=⟨_,rfl⟩
 go_upto_region 4 with fail
 obtain⟨u,hu⟩:∃u,w3.alloc (.cells #[.int .i64 r1,.int .i64 r2,S r3] 26)=u:=⟨_,rfl⟩
 change Code.wp _ _ _ _ (w3.alloc (.cells #[.int .i64 r1,.int .i64 r2,S r3] 26));rw[hu] at HF3 HX3⊢
 try rw[hn3] at HX3
 try rw[hn3]
 clear hu hn3;obtain⟨e0,e1,e2,e3,e4,e5,e6,e7,e8⟩:=nine HF3.o.x;go_wp2_with fail;refine(HE2.o _ HF3.o.bl).mono ?_;rintro e w4 ⟨rfl,hb4⟩;have HF4:=aB ((HF3.o.call hb4).call ((Bl.refl w4).alloc (.cells #[.int .i64 r1,.int .i64 r2,S r3] 26)));have HX4:=aB (aN w4 (.cells #[.int .i64 r1,.int .i64 r2,S r3] 26));have HX5:=aB (keep_b (keep_b HX3.o hb4) ((Bl.refl w4).alloc (.cells #[.int .i64 r1,.int .i64 r2,S r3] 26)));clear hb4 HX3 e0 e1 e2 e3 e4 e5 e6 e7 e8;obtain⟨n4,hn4⟩:∃n4,w4.heap.size=n4:=⟨_,rfl⟩
 go_upto_region 5 with fail
 obtain⟨u2,hu⟩:∃u,w4.alloc (.cells #[.int .i64 r1,.int .i64 r2,S r3] 26)=u:=⟨_,rfl⟩
 change Code.wp _ _ _ _ (w4.alloc (.cells #[.int .i64 r1,.int .i64 r2,S r3] 26));rw[hu] at HF4 HX4 HX5⊢
 try rw[hn4] at HX4
 try rw[hn4]
 clear hu hn4;obtain⟨e0,e1,e2,e3,e4,e5,e6,e7,e8⟩:=nine HF4.o.x;go_wp2_with fail;refine(HT1.o _ HF4.o.bl).mono ?_;rintro e w5 ⟨rfl,hb5⟩;have HF5:=aB (HF4.o.call hb5);have HY4:=aB (keep_b HX4.o hb5);have HY5:=aB (keep_b HX5.o hb5);clear hb5 HX4 HX5 e0 e1 e2 e3 e4 e5 e6 e7 e8;obtain⟨e0,e1,e2,e3,e4,e5,e6,e7,e8⟩:=nine HF5.o.x;go_wp2_with fail;refine(HT2.o _ HF5.o.bl).mono ?_;rintro e w6 ⟨rfl,hb6⟩;have HF6:=aB (HF5.o.call hb6);have HX4:=aB (keep_b HY4.o hb6);have HX5:=aB (keep_b HY5.o hb6);clear hb6 HY4 HY5 e0 e1 e2 e3 e4 e5 e6 e7 e8;obtain⟨p0,p1,p2⟩:=three3 HX4.o;obtain⟨q0,q1,q2⟩:=three3 HX5.o;go_wp2_with fail
 (with_reducible refine(num20_any _ _).mono ?_)
 rintro e w' ⟨rfl,rfl⟩;go_wp2_with fail
 (with_reducible refine(num20_any _ _).mono ?_)
 rintro e w' ⟨rfl,rfl⟩;go_wp2_with fail;refine(HWO.o _ (HF6.o).bl).mono ?_;rintro e w9 ⟨rfl,hb9⟩;go_wp2;go_ret;exact⟨by first |rfl|trivial,(HF6.o).bl.call hb9⟩
end
end Go.Proofs.YtdbkbfkpmnpldaaGreatDoor
