/- Texts beside the shared ones. -/
import Derived.Test.YtkimpcmkminffaaGreatDoorWX0
import Derived.Test.YtkimpcmkminffaaGreatDoorWM5
import Derived.Test.YtkimpcmkminffaaGreatDoorWFD
namespace Go.Proofs.YtkimpcmkminffaaGreatDoor
open Go.RowKit
open _root_.List renaming drop_eq_getElem_cons->aZ
set_option maxRecDepth 100000
section
theorem allV_drop{α:Type}(p:α->Bool){l:List α}{j:Nat}(hj:j<l.length):(l.drop j).all p=(p l[j]&&(l.drop (j+1)).all p):=by
 rw[aZ hj];rfl
theorem tmod_up{n:Int}(h:n.tmod 4294967296<0):n.tmod 4294967296+4294967296=n % 4294967296:=by
 rw[Int.tmod_eq_emod] at h⊢;split at h<;>rename_i hc
 ·omega
 ·rw[if_neg hc];omega
theorem tmod_same{n:Int}(h:¬n.tmod 4294967296<0):n.tmod 4294967296=n % 4294967296:=by
 rw[Int.tmod_eq_emod] at h⊢;split at h<;>rename_i hc
 ·rw[if_pos hc];omega
 ·rw[if_neg hc];omega
theorem tdiv_low(n:Int):(n-n % 4294967296).tdiv 4294967296=n / 4294967296:=by
 obtain⟨q,r,e1,e2,h0,h1⟩:∃q r:Int,n / 4294967296=q/\n % 4294967296=r/\0<=r/\n=q * 4294967296+r:=⟨_,_,rfl,rfl,by omega,by omega⟩
 rw[e1,e2,show n-r=q * 4294967296 by omega];exact Int.mul_tdiv_cancel _ (by decide)
end
end Go.Proofs.YtkimpcmkminffaaGreatDoor
