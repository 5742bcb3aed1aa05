/- Texts beside the shared ones. -/
import Derived.Test.YtkimpcmkminffaaGreatDoorWX0
namespace Go.Proofs.YtkimpcmkminffaaGreatDoor
open Go.RowKit
open _root_.Bool renaming and_eq_true->aQ
open _root_.List renaming cons_append->bE,drop_eq_getElem_cons->aZ,length->lV,length_append->bD,length_cons->aX,length_nil->bL,map_cons->kP,mem_cons->dD
set_option maxRecDepth 100000
section
def c7h(lim:Nat)(v:Int×Int×List UInt8)(t n:List UInt8):Bool:=decide (lim<v.2.2.length)||decide (100<t.length)||decide (100<n.length)
mutual
def partsV(lim:Nat):Nat->Ex->Nat
 |most,.mk _ v t n _ args=>if c7h lim v t n then most+1 else pVs lim most 1 args
def pVs(lim:Nat):Nat->Nat->List Ex->Nat
 |_,n,[]=>n
 |most,n,y::l=>if n<=most then pVs lim most (n+partsV lim (most-n) y) l else n
end
mutual
theorem c9o(lim:Nat):∀(most:Nat) (x:Ex),1<=partsV lim most x/\partsV lim most x<=most+1
 |most,.mk _ v t n _ args=>by
  simp only[partsV];split
  ·omega
  ·exact c8p lim most 1 args (by omega) (by omega)
theorem c8p(lim:Nat):∀(most n:Nat) (l:List Ex),1<=n->n<=most+1->1<=pVs lim most n l/\pVs lim most n l<=most+1
 |most,n,[],h1,h2=>by simp only[pVs];omega
 |most,n,y::l,h1,h2=>by
  simp only[pVs];split
  ·have:=c9o lim (most-n) y;exact c8p lim most _ l (by omega) (by omega)
  ·omega
end
inductive c0t (lim:Nat):Ex->Prop where
 |mk (k:Int) (v:Int×Int×List UInt8) (t n:List UInt8) (o:Int) (args:List Ex) (h:c7h lim v t n=false) (ha:∀y,y∈args->c0t lim y):c0t lim (.mk k v t n o args)
mutual
theorem c2s(lim:Nat):∀(most:Nat) (x:Ex),partsV lim most x<=most->fC x=partsV lim most x/\c0t lim x
 |most,.mk k v t n o args,h=>by
  simp only[partsV] at h⊢;split at h
  ·omega
  ·rename_i hb;rw[if_neg hb];obtain⟨h1,h2⟩:=c1r lim most 1 args h;simp only[fC];exact⟨h1,.mk k v t n o args (by simpa using hb) h2⟩
theorem c1r(lim:Nat):∀(most n:Nat) (l:List Ex),pVs lim most n l<=most->n+fF l=pVs lim most n l/\∀y,y∈l->c0t lim y
 |most,n,[],h=>by simp[pVs,fF]
 |most,n,y::l,h=>by
  simp only[pVs] at h⊢;split at h
  ·rename_i hn;rw[if_pos hn];obtain⟨h1,h2⟩:=c1r lim most _ l h;have hm:partsV lim (most-n) y<=most-n:=by
    have:=(c9o lim (most-n) y).1;omega
   obtain⟨h3,h4⟩:=c2s lim (most-n) y hm;simp only[fF];refine⟨by omega,fun z hz=>?_⟩;rcases dD.1 hz with rfl|hz
   ·exact h4
   ·exact h2 z hz
  ·rename_i hn;omega
end
theorem c7s{lim most n:Nat}(h:most<n)(l:List Ex):pVs lim most n l=n:=by
 cases l with
 |nil=>simp only[pVs]
 |cons y l=>simp only[pVs];rw[if_neg (by omega)]
theorem c7t{lim most n:Nat}{l:List Ex}{j:Nat}(hj:j<l.length)(hn:n<=most):pVs lim most n (l.drop j)=pVs lim most (n+partsV lim (most-n) l[j]) (l.drop (j+1)):=by
 rw[aZ hj];simp only[pVs];rw[if_pos hn]
theorem c0t.lens{lim:Nat}(_:lim<=1100){x:Ex}(h:c0t lim x):Lens x:=by
 induction h with
 |mk k v t n o args h _ ih=>
  simp only[c7h,Bool.or_eq_false_iff,decide_eq_false_iff_not] at h;exact .mk k v t n o args (by omega) (by omega) ih
theorem c0t.mono{a b:Nat}(hab:a<=b){x:Ex}(h:c0t a x):c0t b x:=by
 induction h with
 |mk k v t n o args h _ ih=>
  refine .mk k v t n o args ?_ ih;simp only[c7h,Bool.or_eq_false_iff,decide_eq_false_iff_not] at h⊢;omega
def c5g(l:List (List UInt8)):Nat:=(l.map lV).sum
theorem c4k(s:List UInt8):∀l:List (List UInt8),(jR s l).length<=c5g l+l.length * s.length
 |[]=>by simp[jR,c5g]
 |[x]=>by simp[jR,c5g]
 |x::y::r=>by
  have h:=c4k s (y::r);rw[show jR s (x::y::r)=x++s++jR s (y::r) from rfl];simp only[bD,c5g,kP,List.sum_cons,aX] at *;have e:=Nat.succ_mul (r.length+1) s.length;rw[Nat.succ_eq_add_one] at e;omega
theorem c7y(l:List (List UInt8)):(l.getD 0 []).length+(l.getD 1 []).length<=c5g l:=by
 match l with
 |[]=>simp[c5g]
 |[a]=>simp[c5g]
 |a::b::r=>simp[c5g]
theorem c7n{k:Int}{v:Int×Int×List UInt8}{t n:List UInt8}{o:Int}{args:List Ex}(hb:c7h 1100 v t n=false)(hr:dV k v t n o args=true)(hi:I64 v.2.1)(l:List (List UInt8)):(uB k v t n o l).length<=10100+c5g l+l.length * 2:=by
 simp only[c7h,Bool.or_eq_false_iff,decide_eq_false_iff_not] at hb;have ho:=c4j o;have hg:=c7y l;have hj:=c4k [44,32] l;simp only[uB,qN,mR];split
 ·rename_i hk;subst hk;have hc:chk v.1 v.2.1 v.2.2=0:=(by simp only[dV,if_pos,aQ,beq_iff_eq] at hr;exact hr.1.2);have:=c6k hc hi;omega
 split
 ·split
  ·omega
  ·simp only[bD,aX,bL];omega
 split
 ·simp only[bD,aX,bL,bZ] at *;omega
 split
 ·split
  ·simp[jR];omega
  ·simp only[bD,aX,bL] at *;omega
 split
 ·simp only[jR,bD,aX,bL];omega
 split
 ·simp only[bD,aX,bL] at *;omega
 split
 ·simp only[jR,bD,aX,bL];omega
 ·simp only[jR,bD,aX,bL];omega
mutual
theorem c2q:∀x:Ex,c0t 1100 x->Fits x->eH x=true->(eY x).length+2<=fC x * 10104
 | .mk k v t n o args,h,hf,hc=>by
  have hs:c7h 1100 v t n=false/\∀y,y∈args->c0t 1100 y:=by cases h with |mk _ _ _ _ _ _ h1 h2=>exact⟨h1,h2⟩
  have hi:I64 v.2.1/\∀y,y∈args->Fits y:=by cases hf with |mk _ _ _ _ _ _ h1 h2=>exact⟨h1,h2⟩
  have hr:dV k v t n o args=true:=vF hc;have h1:=c1j args hs.2 hi.2 (fun y hy=>a1l (x:= .mk k v t n o args) hc hy);have h2:=c7n hs.1 hr hi.1 (yX args);have h3:(yX args).length=args.length:=(by rw[vG];simp);simp only[eY,fC];omega
theorem c1j:∀l:List Ex,(∀y,y∈l->c0t 1100 y)->(∀y,y∈l->Fits y)->(∀y,y∈l->eH y=true)->c5g (yX l)+l.length * 2<=fF l * 10104
 |[],_,_,_=>by simp[yX,c5g,fF]
 |x::r,h,hf,hc=>by
  have h1:=c2q x (h x (by simp)) (hf x (by simp)) (hc x (by simp));have h2:=c1j r (fun y hy=>h y (by simp[hy])) (fun y hy=>hf y (by simp[hy])) (fun y hy=>hc y (by simp[hy]));simp only[yX,c5g,kP,List.sum_cons,fF,aX] at *;omega
end
theorem c4w{l:List Ex}{j:Nat}(hj:j<l.length):nV (l.take (j+1))=max (nV (l.take j)) (rY l[j]):=by
 rw[a7b l hj];generalize l.take j=p
 induction p with
 |nil=>simp[nV]
 |cons y p ih=>simp only[bE,nV,ih];omega
theorem c8j(l:List Ex)(j:Nat):nV (l.take j)<=nV l:=by
 induction l generalizing j with
 |nil=>simp
 |cons y p ih=>cases j with
  |zero=>simp[nV]
  |succ j=>simp only[List.take_succ_cons,nV];have:=ih j;omega
mutual
theorem c4x:∀x:Ex,rY x<=2 * fC x
 | .mk k v t n o args=>by
  have h:=a8m args;simp only[rY,fC];split<;>split<;>omega
theorem a8m:∀l:List Ex,nV l<=2 * fF l
 |[]=>by simp[nV]
 |x::r=>by
  have h1:=c4x x;have h2:=a8m r;simp only[nV,fF];omega
end
end
end Go.Proofs.YtkimpcmkminffaaGreatDoor
