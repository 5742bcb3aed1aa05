/- Texts beside the shared ones. -/
import Derived.Test.YtdbkbfkpmnpldaaGreatDoorVX0
import Derived.Test.YtdbkbfkpmnpldaaGreatDoorVFG
namespace Go.Proofs.YtdbkbfkpmnpldaaGreatDoor
open Go.RowKit
open _root_.Go.Lib renaming hid->aB
open _root_.Nat renaming le_refl->aH
set_option maxRecDepth 100000
set_option maxHeartbeats 4000000
section
theorem ok_kind{v:Vl}(h:okVl v=true):I64 v.1:=by
 unfold okVl chk at h;unfold I64;split at h
 ·cases h
 ·split at h
  ·rename_i h2;omega
  ·cases h
abbrev wholeE(o a b:Int):Ending:= .returned (.tuple #[.int .i64 (wholeO o a b).1.2.1,.int .i64 (wholeO o a b).2])
theorem whole_num{o a b n:Int}(h:wholeO o a b=numV n):wholeE o a b=numI n:=by unfold wholeE numI;rw[h]
theorem whole_yes{o a b n:Int}(h:wholeO o a b=((2,n,[]),0)):wholeE o a b= .returned (.tuple #[.int .i64 n,.int .i64 0]):=by unfold wholeE;rw[h]
theorem uwhole_any(o a b:Int)(ha:I64 a)(hb:I64 b)(w:World):Calls Tryz.prog 104 #[.int .i64 o,.int .i64 a,.int .i64 b] w fun e w'=>e=wholeE o a b/\w=w':=by
 have HA:Hid (∀w,Calls Tryz.prog 130 #[.int .i64 a,.int .i64 b] w fun e w'=>e=numI (a+b)/\w=w'):=fun w=>uaddI a b ha hb w;have HS:Hid (∀w,Calls Tryz.prog 131 #[.int .i64 a,.int .i64 b] w fun e w'=>e=numI (a-b)/\w=w'):=fun w=>usubI a b ha hb w;have HM:Hid (∀w,Calls Tryz.prog 132 #[.int .i64 a,.int .i64 b] w fun e w'=>e=numI (a * b)/\w=w'):=fun w=>umul_any a b ha hb w;have HG:Hid (∀w,Calls Tryz.prog 131 #[.int .i64 0,.int .i64 a] w fun e w'=>e=numI (-a)/\w=w'):=fun w=>(by rw[show -a=0-a by omega];exact usubI 0 a (by unfold I64;omega) ha w);obtain⟨Z,HZ⟩:∃Z,wholeE o a b=Z:=⟨_,rfl⟩
 rw[HZ];by_cases h1:o=1
 ·have HE:=aB (HZ.symm.trans (whole_num (by unfold wholeO;rw[if_pos h1])));have g1:(o==1)=true:=(by simpa using h1);clear HZ h1 ha hb;go_enter Tryz.func104,Tryz.ntmps104;go_wp2_with fail;refine((HA).o _).mono ?_;rintro e w1 ⟨rfl,rfl⟩;go_wp2;go_ret2;exact⟨by rw[HE.o]<;>rfl,rfl⟩
 have g1:(o==1)=false:=(by simpa using h1);by_cases h2:o=2
 ·have HE:=aB (HZ.symm.trans (whole_num (by unfold wholeO;rw[if_neg h1,if_pos h2])));have g2:(o==2)=true:=(by simpa using h2);clear HZ h1 h2 ha hb;go_enter Tryz.func104,Tryz.ntmps104;go_wp2_with fail;refine((HS).o _).mono ?_;rintro e w1 ⟨rfl,rfl⟩;go_wp2;go_ret2;exact⟨by rw[HE.o]<;>rfl,rfl⟩
 have g2:(o==2)=false:=(by simpa using h2);by_cases h3:o=3
 ·have HE:=aB (HZ.symm.trans (whole_num (by unfold wholeO;rw[if_neg h1,if_neg h2,if_pos h3])));have g3:(o==3)=true:=(by simpa using h3);clear HZ h1 h2 h3 ha hb;go_enter Tryz.func104,Tryz.ntmps104;go_wp2_with fail;refine((HM).o _).mono ?_;rintro e w1 ⟨rfl,rfl⟩;go_wp2;go_ret2;exact⟨by rw[HE.o]<;>rfl,rfl⟩
 have g3:(o==3)=false:=(by simpa using h3);by_cases h4:o=4
 ·have g4:(o==4)=true:=by simpa using h4
  have g5:(o==5)=false:=(by simpa using(show ¬o=5 by omega));by_cases b0:b=0
  ·have HE:=aB (HZ.symm.trans (show wholeE o a b= .returned (.tuple #[.int .i64 0,.int .i64 121]) from by unfold wholeE wholeO;rw[if_neg h1,if_neg h2,if_neg h3,if_pos h4,if_pos b0]));subst b0;clear HZ h1 h2 h3 h4 ha hb;go_enter Tryz.func104,Tryz.ntmps104;go_wp2;go_ret2;exact⟨by rw[HE.o]<;>rfl,rfl⟩
  have q0:(b==0)=false:=(by simpa using b0);by_cases bm:b= -1
  ·have HE:=aB (HZ.symm.trans (whole_num (n:= -a) (by unfold wholeO;rw[if_neg h1,if_neg h2,if_neg h3,if_pos h4,if_neg b0,bm,Int.tdiv_neg,Int.tdiv_one])));have q1:(b== -1)=true:=(by simpa using bm);clear HZ h1 h2 h3 h4 ha hb b0 bm;go_enter Tryz.func104,Tryz.ntmps104;go_wp2_with fail;refine((HG).o _).mono ?_;rintro e w1 ⟨rfl,rfl⟩;go_wp2;go_ret2;exact⟨by rw[HE.o]<;>rfl,rfl⟩
  ·have hf:fits64 (a.tdiv b)=true:=by rw[div_fits ha b0,decide_eq_false bm,Bool.and_false];rfl
   have HE:=aB (HZ.symm.trans (whole_yes (n:=a.tdiv b) (by unfold wholeO;rw[if_neg h1,if_neg h2,if_neg h3,if_pos h4,if_neg b0];unfold numV;rw[if_pos hf])));have q1:(b== -1)=false:=(by simpa using bm);have hw:=wrap_fit hf;clear HZ h1 h2 h3 h4 ha hb bm hf;go_enter Tryz.func104,Tryz.ntmps104;go_wp2;go_ret2;exact⟨by rw[HE.o]<;>rfl,rfl⟩
 have g4:(o==4)=false:=(by simpa using h4);by_cases h5:o=5
 ·have g5:(o==5)=true:=by simpa using h5
  by_cases b0:b=0
  ·have HE:=aB (HZ.symm.trans (show wholeE o a b= .returned (.tuple #[.int .i64 0,.int .i64 121]) from by unfold wholeE wholeO;rw[if_neg h1,if_neg h2,if_neg h3,if_neg h4,if_pos h5,if_pos b0]));subst b0;clear HZ h1 h2 h3 h4 h5 ha hb;go_enter Tryz.func104,Tryz.ntmps104;go_wp2;go_ret2;exact⟨by rw[HE.o]<;>rfl,rfl⟩
  have q0:(b==0)=false:=(by simpa using b0);by_cases bm:b= -1
  ·have HE:=aB (HZ.symm.trans (show wholeE o a b= .returned (.tuple #[.int .i64 0,.int .i64 0]) from by unfold wholeE wholeO;rw[if_neg h1,if_neg h2,if_neg h3,if_neg h4,if_pos h5,if_neg b0,bm,Int.tmod_neg,Int.tmod_one];rfl));have q1:(b== -1)=true:=(by simpa using bm);clear HZ h1 h2 h3 h4 h5 ha hb b0 bm;go_enter Tryz.func104,Tryz.ntmps104;go_wp2;go_ret2;exact⟨by rw[HE.o]<;>rfl,rfl⟩
  ·have hf:fits64 (a.tmod b)=true:=mod_fits ha;have HE:=aB (HZ.symm.trans (whole_yes (n:=a.tmod b) (by unfold wholeO;rw[if_neg h1,if_neg h2,if_neg h3,if_neg h4,if_pos h5,if_neg b0];unfold numV;rw[if_pos hf])));have q1:(b== -1)=false:=(by simpa using bm);have hw:=wrap_fit hf;clear HZ h1 h2 h3 h5 ha hb bm hf;go_enter Tryz.func104,Tryz.ntmps104;go_wp2;go_ret2;exact⟨by rw[HE.o]<;>rfl,rfl⟩
 have g5:(o==5)=false:=(by simpa using h5);by_cases h20:o=20
 ·have g20:(o==20)=true:=by simpa using h20
  by_cases a0:0<=a
  ·have HE:=aB (HZ.symm.trans (whole_yes (n:=a) (by unfold wholeO;rw[if_neg h1,if_neg h2,if_neg h3,if_neg h4,if_neg h5,if_pos ⟨h20,a0⟩])));clear HZ h1 h2 h3 h4 h5 h20 ha hb;go_enter Tryz.func104,Tryz.ntmps104;go_wp2;go_ret2;exact⟨by rw[HE.o]<;>rfl,rfl⟩
  ·have HE:=aB (HZ.symm.trans (whole_num (n:= -a) (by unfold wholeO;rw[if_neg h1,if_neg h2,if_neg h3,if_neg h4,if_neg h5,if_neg (fun h=>a0 h.2)])));clear HZ h1 h2 h3 h4 h5 h20 ha hb;go_enter Tryz.func104,Tryz.ntmps104;go_wp2_with fail;refine((HG).o _).mono ?_;rintro e w1 ⟨rfl,rfl⟩;go_wp2;go_ret2;exact⟨by rw[HE.o]<;>rfl,rfl⟩
 ·have g20:(o==20)=false:=by simpa using h20
  have HE:=aB (HZ.symm.trans (whole_num (n:= -a) (by unfold wholeO;rw[if_neg h1,if_neg h2,if_neg h3,if_neg h4,if_neg h5,if_neg (fun h=>h20 h.1)])));clear HZ h1 h2 h3 h4 h5 h20 ha hb;go_enter Tryz.func104,Tryz.ntmps104;go_wp2_with fail;refine((HG).o _).mono ?_;rintro e w1 ⟨rfl,rfl⟩;go_wp2;go_ret2;exact⟨by rw[HE.o]<;>rfl,rfl⟩
theorem uBool_any(b:Bool)(w:World):Calls Tryz.prog 101 #[.bool b] w fun e w'=>e= .returned (VlV (tVl b))/\Bl w w':=by
 have HO:=aB (fun w=>a9u 1 (by decide) (by decide) w);have HP:=aB (fun w=>a9u 0 (by decide) (by decide) w);cases b
 ·go_enter Tryz.func101,Tryz.ntmps101;go_wp2_with fail;refine(HP.o _).mono ?_;rintro e w1 ⟨rfl,hb1⟩;have hr:=keep_b (aN w (.cells #[.int .i64 0,.int .i64 0,S []] 26)) hb1;go_wp2_with (refine bA (g:=w.heap.size) (i:=0) rfl rfl rfl rfl (cells3 (1,0,[])) hr rfl rfl vlInfo rfl ?_)
  intro w9 hB9 hX9;go_wp2;exact bodyPost_ret (v:=VlV (1,0,[])) (results_cell_row (p:=2) (ty:=26) rfl _ _ w.heap.size 26 _ (0,0) _ rfl hX9 Tryz.underlying26 rfl vlInfo) rfl ⟨rfl,hB9.bl (((Bl.refl w).alloc _).call hb1) (aH _)⟩
 ·go_enter Tryz.func101,Tryz.ntmps101;go_wp2_with fail;refine(HO.o _).mono ?_;rintro e w1 ⟨rfl,hb1⟩;have hr:=keep_b (aN w (.cells #[.int .i64 0,.int .i64 0,S []] 26)) hb1;go_wp2_with (refine bA (g:=w.heap.size) (i:=0) rfl rfl rfl rfl (cells3 (1,1,[])) hr rfl rfl vlInfo rfl ?_)
  intro w9 hB9 hX9;go_wp2;exact bodyPost_ret (v:=VlV (1,1,[])) (results_cell_row (p:=2) (ty:=26) rfl _ _ w.heap.size 26 _ (0,0) _ rfl hX9 Tryz.underlying26 rfl vlInfo) rfl ⟨rfl,hB9.bl (((Bl.refl w).alloc _).call hb1) (aH _)⟩
end
end Go.Proofs.YtdbkbfkpmnpldaaGreatDoor
