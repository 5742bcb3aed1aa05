/- Texts beside the shared ones. -/
import Derived.Test.YtdbkbfkpmnpldaaGreatDoorVX0
import Derived.Test.YtdbkbfkpmnpldaaGreatDoorVBY
namespace Go.Proofs.YtdbkbfkpmnpldaaGreatDoor
open Go.RowKit
open _root_.And renaming intro->bT
open _root_.Bool renaming false_and->pK,true_and->rC
open _root_.Go.Ending renaming returned->bQ
open _root_.Go.Lib renaming hid->aB
set_option maxRecDepth 100000
set_option maxHeartbeats 4000000
section
abbrev numI(n:Int):Ending:= .returned (.tuple #[.int .i64 (numV n).1.2.1,.int .i64 (numV n).2])
theorem numI_yes{n:Int}(h:fits64 n=true):numI n= .returned (.tuple #[.int .i64 n,.int .i64 0]):=by unfold numI numV;rw[h];rfl
theorem numI_no{n:Int}(h:fits64 n=false):numI n= .returned (.tuple #[.int .i64 0,.int .i64 122]):=by unfold numI numV;rw[h];rfl
theorem numI_ifs(n:Int):bQ (.tuple #[.int .i64 (if -9223372036854775808<=n/\n<=9223372036854775807 then n else 0),.int .i64 (if -9223372036854775808<=n/\n<=9223372036854775807 then 0 else 122)])=numI n:=by
 by_cases h: -9223372036854775808<=n/\n<=9223372036854775807
 ·rw[numI_yes (by unfold fits64;simp[h.1,h.2]),if_pos h,if_pos h]
 ·rw[numI_no (by unfold fits64;rw[Bool.and_eq_false_iff];simp only[decide_eq_false_iff_not];omega),if_neg h,if_neg h]
theorem uaddI(a b:Int)(ha:I64 a)(hb:I64 b)(w:World):Calls Tryz.prog 130 #[.int .i64 a,.int .i64 b] w fun e w'=>e=numI (a+b)/\w=w':=
 (uadd_any a b ha.1 ha.2 hb.1 hb.2 w).mono fun _ _ h=>⟨h.1.trans (numI_ifs _),h.2.symm⟩
theorem usubI(a b:Int)(ha:I64 a)(hb:I64 b)(w:World):Calls Tryz.prog 131 #[.int .i64 a,.int .i64 b] w fun e w'=>e=numI (a-b)/\w=w':=
 (usub_any a b ha.1 ha.2 hb.1 hb.2 w).mono fun _ _ h=>⟨h.1.trans (numI_ifs _),h.2.symm⟩
theorem umul_any(a b:Int)(ha:I64 a)(hb:I64 b)(w:World):Calls Tryz.prog 132 #[.int .i64 a,.int .i64 b] w fun e w'=>e=numI (a * b)/\w=w':=by
 by_cases a0:a=0
 ·subst a0;have e:numI (0 * b)= .returned (.tuple #[.int .i64 0,.int .i64 0]):=(by rw[Int.zero_mul];exact numI_yes (by decide));rw[e];clear e ha hb;go_enter Tryz.func132,Tryz.ntmps132;go_wp2;go_ret2;exact⟨rfl,rfl⟩
 have g0:(a==0)=false:=(by simpa using a0);by_cases b0:b=0
 ·subst b0;have e:numI (a * 0)= .returned (.tuple #[.int .i64 0,.int .i64 0]):=(by rw[Int.mul_zero];exact numI_yes (by decide));rw[e];clear e ha hb;go_enter Tryz.func132,Tryz.ntmps132;go_wp2;go_ret2;exact⟨rfl,rfl⟩
 have g1:(b==0)=false:=(by simpa using b0);by_cases am:a= -1
 ·subst am;have e:numI (-1 * b)=numI (0-b):=(by rw[Int.neg_one_mul,Int.zero_sub]);rw[e];clear e;have HS:Hid (∀w,Calls Tryz.prog 131 #[.int .i64 0,.int .i64 b] w fun e w'=>e=numI (0-b)/\w=w'):=fun w=>usubI 0 b (by unfold I64;omega) hb w;generalize 0-b=n at *;clear ha hb a0 b0;go_enter Tryz.func132,Tryz.ntmps132;go_wp2_with fail;refine(HS.o _).mono ?_;rintro e w1 ⟨rfl,rfl⟩;go_wp2;go_ret2;exact⟨rfl,rfl⟩
 have g2:(a== -1)=false:=(by simpa using am);by_cases bm:b= -1
 ·subst bm;have e:numI (a * -1)=numI (0-a):=(by rw[Int.mul_neg_one,Int.zero_sub]);rw[e];clear e;have HS:Hid (∀w,Calls Tryz.prog 131 #[.int .i64 0,.int .i64 a] w fun e w'=>e=numI (0-a)/\w=w'):=fun w=>usubI 0 a (by unfold I64;omega) ha w;generalize 0-a=n at *;clear ha hb a0 b0 am;go_enter Tryz.func132,Tryz.ntmps132;go_wp2_with fail;refine(HS.o _).mono ?_;rintro e w1 ⟨rfl,rfl⟩;go_wp2;go_ret2;exact⟨rfl,rfl⟩
 have g3:(b== -1)=false:=(by simpa using bm);have hov:=mul_over a0 b0;have HE:=aB (bT (fun h=>numI_yes (n:=a * b) h) (fun h=>numI_no (n:=a * b) h));obtain⟨Z,HZ⟩:∃Z,Hid (numI (a * b)=Z):=⟨_,rfl⟩
 rw[HZ.o] at HE⊢;have HW:=aB (fun(h:fits64 (a * b)=true)=>wrap_fit h);have hda:I64 a:=ha;have hdb:I64 b:=hb;unfold I64 at ha hb;unfold mulOver at hov;rcases Int.lt_or_gt_of_ne a0 with ha'|ha'<;>rcases Int.lt_or_gt_of_ne b0 with hb'|hb'
 ·have HQ:=aB (wrap_fit (n:=Int.tdiv 9223372036854775807 b) (by rw[div_fits (by unfold I64;omega) b0];rfl));rw[decide_eq_false (show ¬0<a by omega),decide_eq_false (show ¬0<b by omega),decide_eq_true ha',decide_eq_true hb'] at hov;simp only[pK,Bool.and_false,rC,Bool.or_false,Bool.false_or] at hov;obtain⟨q,hq⟩:∃q,Int.tdiv 9223372036854775807 b=q:=⟨_,rfl⟩
  rw[hq] at hov HQ;have hqw:=HQ.o;by_cases hc:a<q
  ·have HZ2:=aB (HE.o.2 (by rw[decide_eq_true hc] at hov;cases hf:fits64 (a * b);rfl;rw[hf] at hov;cases hov));clear hov HW HQ HE HZ a0 b0 am bm hda hdb;go_enter Tryz.func132,Tryz.ntmps132;go_wp2;go_ret2;exact⟨by rw[HZ2.o]<;>rfl,rfl⟩
  ·have hf:fits64 (a * b)=true:=by rw[decide_eq_false hc] at hov;cases hf:fits64 (a * b);rw[hf] at hov;cases hov;rfl
   have HZ2:=aB (HE.o.1 hf);have hw:=HW.o hf;clear hov HW HQ HE HZ a0 b0 am bm hda hdb hf;generalize hab:a * b=ab at *;go_enter Tryz.func132,Tryz.ntmps132;go_wp2;go_ret2;exact⟨by rw[HZ2.o]<;>rfl,rfl⟩
 ·have HQ:=aB (wrap_fit (n:=Int.tdiv (-9223372036854775808) b) (by rw[div_fits (by unfold I64;omega) b0,decide_eq_false bm,Bool.and_false];rfl));rw[decide_eq_false (show ¬0<a by omega),decide_eq_false (show ¬b<0 by omega),decide_eq_true ha',decide_eq_true hb'] at hov;simp only[pK,Bool.and_false,rC,Bool.or_false,Bool.false_or] at hov;obtain⟨q,hq⟩:∃q,Int.tdiv (-9223372036854775808) b=q:=⟨_,rfl⟩
  rw[hq] at hov HQ;have hqw:=HQ.o;by_cases hc:a<q
  ·have HZ2:=aB (HE.o.2 (by rw[decide_eq_true hc] at hov;cases hf:fits64 (a * b);rfl;rw[hf] at hov;cases hov));clear hov HW HQ HE HZ a0 b0 am bm hda hdb;go_enter Tryz.func132,Tryz.ntmps132;go_wp2;go_ret2;exact⟨by rw[HZ2.o]<;>rfl,rfl⟩
  ·have hf:fits64 (a * b)=true:=by rw[decide_eq_false hc] at hov;cases hf:fits64 (a * b);rw[hf] at hov;cases hov;rfl
   have HZ2:=aB (HE.o.1 hf);have hw:=HW.o hf;clear hov HW HQ HE HZ a0 b0 am bm hda hdb hf;generalize hab:a * b=ab at *;go_enter Tryz.func132,Tryz.ntmps132;go_wp2;go_ret2;exact⟨by rw[HZ2.o]<;>rfl,rfl⟩
 ·have HQ:=aB (wrap_fit (n:=Int.tdiv (-9223372036854775808) a) (by rw[div_fits (by unfold I64;omega) a0,decide_eq_false am,Bool.and_false];rfl));rw[decide_eq_false (show ¬a<0 by omega),decide_eq_false (show ¬0<b by omega),decide_eq_true ha',decide_eq_true hb'] at hov;simp only[pK,Bool.and_false,rC,Bool.or_false,Bool.false_or] at hov;obtain⟨q,hq⟩:∃q,Int.tdiv (-9223372036854775808) a=q:=⟨_,rfl⟩
  rw[hq] at hov HQ;have hqw:=HQ.o;by_cases hc:b<q
  ·have HZ2:=aB (HE.o.2 (by rw[decide_eq_true hc] at hov;cases hf:fits64 (a * b);rfl;rw[hf] at hov;cases hov));clear hov HW HQ HE HZ a0 b0 am bm hda hdb;go_enter Tryz.func132,Tryz.ntmps132;go_wp2;go_ret2;exact⟨by rw[HZ2.o]<;>rfl,rfl⟩
  ·have hf:fits64 (a * b)=true:=by rw[decide_eq_false hc] at hov;cases hf:fits64 (a * b);rw[hf] at hov;cases hov;rfl
   have HZ2:=aB (HE.o.1 hf);have hw:=HW.o hf;clear hov HW HQ HE HZ a0 b0 am bm hda hdb hf;generalize hab:a * b=ab at *;go_enter Tryz.func132,Tryz.ntmps132;go_wp2;go_ret2;exact⟨by rw[HZ2.o]<;>rfl,rfl⟩
 ·have HQ:=aB (wrap_fit (n:=Int.tdiv 9223372036854775807 b) (by rw[div_fits (by unfold I64;omega) b0];rfl));rw[decide_eq_false (show ¬a<0 by omega),decide_eq_false (show ¬b<0 by omega),decide_eq_true ha',decide_eq_true hb'] at hov;simp only[pK,Bool.and_false,rC,Bool.or_false] at hov;obtain⟨q,hq⟩:∃q,Int.tdiv 9223372036854775807 b=q:=⟨_,rfl⟩
  rw[hq] at hov HQ;have hqw:=HQ.o;by_cases hc:q<a
  ·have HZ2:=aB (HE.o.2 (by rw[decide_eq_true hc] at hov;cases hf:fits64 (a * b);rfl;rw[hf] at hov;cases hov));clear hov HW HQ HE HZ a0 b0 am bm hda hdb;go_enter Tryz.func132,Tryz.ntmps132;go_wp2;go_ret2;exact⟨by rw[HZ2.o]<;>rfl,rfl⟩
  ·have hf:fits64 (a * b)=true:=by rw[decide_eq_false hc] at hov;cases hf:fits64 (a * b);rw[hf] at hov;cases hov;rfl
   have HZ2:=aB (HE.o.1 hf);have hw:=HW.o hf;clear hov HW HQ HE HZ a0 b0 am bm hda hdb hf;generalize hab:a * b=ab at *;go_enter Tryz.func132,Tryz.ntmps132;go_wp2;go_ret2;exact⟨by rw[HZ2.o]<;>rfl,rfl⟩
theorem ubool_vl(b:Bool):tVl b=if b then(1,1,[]) else(1,0,[]):=rfl
theorem utruth_any(o n:Int)(w:World):Calls Tryz.prog 103 #[.int .i64 o,.int .i64 n] w fun e w'=>e= .returned (.bool (truthO o n))/\w=w':=by
 unfold truthO;by_cases h7:o=7
 ·subst h7;go_enter Tryz.func103,Tryz.ntmps103;go_wp2;go_ret;exact⟨rfl,rfl⟩
 have g7:(o==7)=false:=(by simpa using h7);rw[if_neg h7];by_cases h8:o=8
 ·subst h8;go_enter Tryz.func103,Tryz.ntmps103;go_wp2;go_ret;exact⟨rfl,rfl⟩
 have g8:(o==8)=false:=(by simpa using h8);rw[if_neg h8];by_cases h9:o=9
 ·subst h9;go_enter Tryz.func103,Tryz.ntmps103;go_wp2;go_ret;exact⟨rfl,rfl⟩
 have g9:(o==9)=false:=(by simpa using h9);rw[if_neg h9];by_cases h10:o=10
 ·subst h10;go_enter Tryz.func103,Tryz.ntmps103;go_wp2;go_ret;exact⟨rfl,rfl⟩
 have g10:(o==10)=false:=(by simpa using h10);rw[if_neg h10];by_cases h11:o=11
 ·subst h11;go_enter Tryz.func103,Tryz.ntmps103;go_wp2;go_ret;exact⟨rfl,rfl⟩
 have g11:(o==11)=false:=(by simpa using h11);rw[if_neg h11];clear h7 h8 h9 h10 h11;go_enter Tryz.func103,Tryz.ntmps103;go_wp2;go_ret;exact⟨rfl,rfl⟩
end
end Go.Proofs.YtdbkbfkpmnpldaaGreatDoor
