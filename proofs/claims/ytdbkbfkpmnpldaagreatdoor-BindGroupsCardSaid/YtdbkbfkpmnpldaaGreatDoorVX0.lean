/- Texts beside the shared ones. -/
import Derived.Test.YtdbkbfkpmnpldaaGreatDoorNS
import Derived.Test.YtdbkbfkpmnpldaaGreatDoorNA
import Derived.Test.YtdbkbfkpmnpldaaGreatDoorNB
import Derived.Test.YtdbkbfkpmnpldaaGreatDoorNC
import Derived.Test.YtdbkbfkpmnpldaaGreatDoorNX
import Derived.Test.YtdbkbfkpmnpldaaGreatDoorNI
import Derived.Test.YtdbkbfkpmnpldaaGreatDoorND
import Derived.Test.YtdbkbfkpmnpldaaGreatDoorNE
import Derived.Test.YtdbkbfkpmnpldaaGreatDoorWXS
import Derived.Test.YtdbkbfkpmnpldaaGreatDoorWX0
import Derived.Test.YtdbkbfkpmnpldaaGreatDoorWM1
import Derived.Test.YtdbkbfkpmnpldaaGreatDoorWM2
import Derived.Test.YtdbkbfkpmnpldaaGreatDoorWCA
import Derived.Test.YtdbkbfkpmnpldaaGreatDoorWM3
import Derived.Test.YtdbkbfkpmnpldaaGreatDoorWM4
import Derived.Test.YtdbkbfkpmnpldaaGreatDoorWM5
import Derived.Test.YtdbkbfkpmnpldaaGreatDoorWM6
import Derived.Test.YtdbkbfkpmnpldaaGreatDoorWM7
import Derived.Test.YtdbkbfkpmnpldaaGreatDoorWM8
import Derived.Test.YtdbkbfkpmnpldaaGreatDoorWM9
import Derived.Test.YtdbkbfkpmnpldaaGreatDoorWFA
import Derived.Test.YtdbkbfkpmnpldaaGreatDoorWFB
import Derived.Test.YtdbkbfkpmnpldaaGreatDoorWFC
import Derived.Test.YtdbkbfkpmnpldaaGreatDoorWOB
namespace Go.Proofs.YtdbkbfkpmnpldaaGreatDoor
open Go.RowKit
open _root_.Bool renaming and_eq_true->aQ,eq_iff_iff->kC,not_eq_true'->nT,or_eq_true->jO
set_option maxRecDepth 100000
section
theorem nat_over{x y m:Nat}(hy:0<y):m / y<x↔m<x * y:=Nat.div_lt_iff_lt_mul hy
theorem tdiv_pp(m y:Nat):Int.tdiv (m:Int) (y:Int)=((m / y:Nat):Int):=rfl
theorem tdiv_pn(m y:Nat):Int.tdiv (m:Int) (-(y:Int))= -((m / y:Nat):Int):=by rw[Int.tdiv_neg];rfl
theorem tdiv_np(m y:Nat):Int.tdiv (-(m:Int)) (y:Int)= -((m / y:Nat):Int):=by rw[Int.neg_tdiv];rfl
theorem pos_nat{a:Int}(h:0<a):∃x:Nat,a=x/\0<x:=⟨a.toNat,by omega,by omega⟩
theorem neg_nat{a:Int}(h:a<0):∃x:Nat,a= -(x:Int)/\0<x:=⟨(-a).toNat,by omega,by omega⟩
theorem fits_nat(n:Nat):fits64 (n:Int)=decide (n<=9223372036854775807):=by
 unfold fits64;rw[kC];simp only[aQ,decide_eq_true_eq];omega
theorem fits_neg(n:Nat):fits64 (-(n:Int))=decide (n<=9223372036854775808):=by
 unfold fits64;rw[kC];simp only[aQ,decide_eq_true_eq];omega
def mulOver(a b:Int):Bool:=
 (decide (0<a)&&decide (0<b)&&decide (Int.tdiv 9223372036854775807 b<a))||(decide (a<0)&&decide (b<0)&&decide (a<Int.tdiv 9223372036854775807 b))||
 (decide (0<a)&&decide (b<0)&&decide (b<Int.tdiv (-9223372036854775808) a))||(decide (a<0)&&decide (0<b)&&decide (a<Int.tdiv (-9223372036854775808) b))
theorem mul_over{a b:Int}(ha:a≠0)(hb:b≠0):mulOver a b= !fits64 (a * b):=by
 have e1:(9223372036854775807:Int)=((9223372036854775807:Nat):Int):=rfl;have e2:(-9223372036854775808:Int)= -((9223372036854775808:Nat):Int):=rfl;unfold mulOver;rcases Int.lt_or_gt_of_ne ha with h|h<;>rcases Int.lt_or_gt_of_ne hb with h'|h'
 ·obtain⟨x,rfl,hx⟩:=neg_nat h;obtain⟨y,rfl,hy⟩:=neg_nat h';have hn:= @nat_over x y 9223372036854775807 hy;rw[Int.neg_mul_neg,<-Int.natCast_mul,fits_nat,e1,tdiv_pn];generalize x * y=z at *;generalize 9223372036854775807 / y=q at *;rw[kC];simp only[jO,aQ,decide_eq_true_eq,nT,decide_eq_false_iff_not];omega
 ·obtain⟨x,rfl,hx⟩:=neg_nat h;obtain⟨y,rfl,hy⟩:=pos_nat h';have hn:= @nat_over x y 9223372036854775808 hy;rw[Int.neg_mul,<-Int.natCast_mul,fits_neg,e2,tdiv_np];generalize x * y=z at *;generalize 9223372036854775808 / y=q at *;rw[kC];simp only[jO,aQ,decide_eq_true_eq,nT,decide_eq_false_iff_not];omega
 ·obtain⟨x,rfl,hx⟩:=pos_nat h;obtain⟨y,rfl,hy⟩:=neg_nat h';have hn:= @nat_over y x 9223372036854775808 hx;rw[Int.mul_neg,<-Int.natCast_mul,fits_neg,e2,tdiv_np,Nat.mul_comm x y];generalize y * x=z at *;generalize 9223372036854775808 / x=q at *;rw[kC];simp only[jO,aQ,decide_eq_true_eq,nT,decide_eq_false_iff_not];omega
 ·obtain⟨x,rfl,hx⟩:=pos_nat h;obtain⟨y,rfl,hy⟩:=pos_nat h';have hn:= @nat_over x y 9223372036854775807 hy;rw[<-Int.natCast_mul,fits_nat,e1,tdiv_pp];generalize x * y=z at *;generalize 9223372036854775807 / y=q at *;rw[kC];simp only[jO,aQ,decide_eq_true_eq,nT,decide_eq_false_iff_not];omega
end
end Go.Proofs.YtdbkbfkpmnpldaaGreatDoor
