/- Texts beside the shared ones. -/
import Derived.Test.YtkimpcmkminffaaGreatDoorWX0
import Derived.Test.YtkimpcmkminffaaGreatDoorWFO
namespace Go.Proofs.YtkimpcmkminffaaGreatDoor
open Go.RowKit
open _root_.Bool renaming and_eq_true->aQ
open _root_.List renaming getElem?_eq_getElem->aP
set_option maxRecDepth 100000
section
theorem zero_ite{P:Prop}[Decidable P]{a b:Vl×Int}(ha:a.2≠0->a.1=zVl)(hb:b.2≠0->b.1=zVl):(if P then a else b).2≠0->(if P then a else b).1=zVl:=by
 split<;>assumption
theorem no_err{v:Vl}:((v,(0:Int)):Vl×Int).2≠0->((v,(0:Int)):Vl×Int).1=zVl:=fun h=>absurd rfl h
theorem total_zero{l:List Vl}:(totalV l).2≠0->(totalV l).1=zVl:=by
 unfold totalV;exact zero_ite no_err (fun _=>rfl)
theorem summed_zero{n:List UInt8}{l:List Vl}{rows args:Nat}:(summedV n l rows args).2≠0->(summedV n l rows args).1=zVl:=by
 unfold summedV;refine zero_ite no_err ?_;cases l.filter fun v=>v.1 != 0 with
 |nil=>exact no_err
 |cons a r=>exact zero_ite (zero_ite (fun _=>rfl) (fun h=>total_zero h)) no_err
theorem sum_four20{c t:Int}{v:Vl}{p o:Int}{n:List UInt8}{l:List Bd}(h:rightD c (.mk 5 t v p o n l)=true):Four n:=by
 rw[rightD_parts] at h;simp only[aQ] at h;have hi:=h.1.1.1;simp only[isD,show((5:Int)=1)=False from by simp,show((5:Int)=2)=False from by simp,show((5:Int)=3)=False from by simp,show((5:Int)=4)=False from by simp,if_false,if_true,aQ] at hi;by_cases hf:Four n
 ·exact hf
 ·rw[(names_ways n).2 hf] at hi;exact absurd hi.1 (by decide)
theorem row_at20{W:World}{rb ro rc m:Nat}{rows:List (List Vl)}(hr:ReadsRw (fun _=>True) W (.slice (some ⟨rb,ro,none⟩) rows.length rc) rows){j:Nat}(hj:j<rows.length):ReadsRw (fun _=>True) W (.slice (some ⟨rb,ro+j,none⟩) 1 m) [rows[j]]:=by
 obtain⟨a,cap,e,h⟩:=hr;simp only[Value.slice.injEq] at e;obtain⟨rfl,-,rfl⟩:=e;obtain⟨b,off,s,e,hp,hb,hc,hv⟩:=h j _ (aP hj);simp only[Option.some.injEq,Addr.mk.injEq,and_true] at e;obtain⟨rfl,rfl⟩:=e;refine⟨_,_,rfl,fun i r hi=>?_⟩;cases i with
 |zero=>
  obtain rfl:rows[j]=r:=(by simpa using hi);exact⟨rb,ro+j,s,rfl,trivial,hb,hc,hv⟩
 |succ i=>simp at hi
end
end Go.Proofs.YtkimpcmkminffaaGreatDoor
