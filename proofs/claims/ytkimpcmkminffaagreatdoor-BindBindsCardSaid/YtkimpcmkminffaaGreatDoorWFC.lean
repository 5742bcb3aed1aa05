/- Texts beside the shared ones. -/
import Derived.Test.YtkimpcmkminffaaGreatDoorWX0
import Derived.Test.YtkimpcmkminffaaGreatDoorWFB
import Derived.Test.YtkimpcmkminffaaGreatDoorWM6
namespace Go.Proofs.YtkimpcmkminffaaGreatDoor
open Go.RowKit
open _root_.Bool renaming eq_iff_iff->kC
open _root_.List renaming mem_cons->dD
set_option maxRecDepth 100000
section
theorem beq_sw{α:Type}[BEq α][LawfulBEq α](a b:α):(a==b)=(b==a):=by rw[kC,beq_iff_eq,beq_iff_eq];exact⟨Eq.symm,Eq.symm⟩
mutual
theorem sameD_comm:∀x y:Bd,sameD x y=sameD y x
 | .mk k t v p o n l,.mk k' t' v' p' o' n' l'=>by
  simp only[sameD];rw[samesD_comm l l',beq_sw k,beq_sw t,beq_sw v,beq_sw p,beq_sw o,beq_sw n]
theorem samesD_comm:∀l m:List Bd,samesD l m=samesD m l
 |[],[]=>rfl
 |[],_::_=>rfl
 |_::_,[]=>rfl
 |x::l,y::m=>by simp only[samesD];rw[sameD_comm x y,samesD_comm l m]
end
structure RiF(c d:Array Value)(W A:World):Prop where
 x:A.heap[W.heap.size]?=some (.cells c 30 (0,0))
 r:A.heap[W.heap.size+1]?=some (.cells d 30 (0,0))
 bl:Bl W A
theorem RiF.call{c d:Array Value}{W A B:World}(h:RiF c d W A)(hb:Bl A B):RiF c d W B:=⟨keep_b h.x hb,keep_b h.r hb,h.bl.call hb⟩
theorem RiF.start(c d:Array Value)(W:World):RiF c d W ((W.alloc (.cells c 30)).alloc (.cells d 30)):=
 ⟨keep_b (aN W _) ((Bl.refl _).alloc _),aV _ _ (by simp),((Bl.refl W).alloc _).alloc _⟩
theorem RiF.but{c d d':Array Value}{W A B:World}(h:RiF c d W A)(hb:But (W.heap.size+1) A B)(hx:B.heap[W.heap.size+1]?=some (.cells d' 30 (0,0))):RiF c d' W B:=⟨(hb.same _ (by omega)).trans h.x,hx,hb.bl h.bl (by omega)⟩
def Int2(v:Vl):Prop:=I64 v.1/\I64 v.2.1
mutual
def i64D:Bd->Prop
 | .mk _ _ v _ _ _ l=>Int2 v/\i64sD l
def i64sD:List Bd->Prop
 |[]=>True
 |x::r=>i64D x/\i64sD r
end
theorem i64sD_mem:∀{l:List Bd} {y:Bd},i64sD l->y∈l->i64D y
 |x::r,y,h,hy=>by
  rcases dD.1 hy with rfl|hy
  ·exact h.1
  ·exact i64sD_mem h.2 hy
theorem i64D_v{x:Bd}(h:i64D x):Int2 x.v:=by
 cases x;exact h.1
theorem i64D_args{x y:Bd}(h:i64D x)(hy:y∈x.args):i64D y:=by
 cases x;exact i64sD_mem h.2 hy
mutual
theorem i64D_ints:∀{x:Bd},i64D x->intsD x
 | .mk _ _ _ _ _ _ _,h=>⟨h.1.2,i64sD_ints h.2⟩
theorem i64sD_ints:∀{l:List Bd},i64sD l->intssD l
 |[],_=>trivial
 |_::_,h=>⟨i64D_ints h.1,i64sD_ints h.2⟩
end
theorem bare_parts(x:Bd):partsD (bareD x)=partsD x:=by
 obtain⟨k,t,v,p,o,n,l⟩:=x;simp only[bareD]
 repeat' split
 all_goals rfl
theorem rInt1:(Tryz.prog.info? 3).map (·.size)=some 1:=by kernel_rfl
theorem rStr1:(Tryz.prog.info? 9).map (·.size)=some 1:=by kernel_rfl
theorem rOp1:(Tryz.prog.info? 27).map (·.size)=some 1:=by kernel_rfl
def Four(n:List UInt8):Prop:=n=gX\/n=c1m\/n=c1n\/n=c1o
theorem names_ways(n:List UInt8):(Four n->gP.contains n=true)/\(¬Four n->gP.contains n=false):=by
 refine⟨fun h=>?_,fun h=>?_⟩
 ·rcases h with rfl|rfl|rfl|rfl<;>decide
 ·cases hc:gP.contains n
  ·rfl
  ·exfalso;apply h;have h2:n∈gP:=(by simpa using hc);simp only[gP,dD,List.not_mem_nil,or_false] at h2;exact h2
end
end Go.Proofs.YtkimpcmkminffaaGreatDoor
