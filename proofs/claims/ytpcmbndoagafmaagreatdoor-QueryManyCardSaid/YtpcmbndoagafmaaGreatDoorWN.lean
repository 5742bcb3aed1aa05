/- Texts beside the shared ones. -/
import Derived.Test.YtpcmbndoagafmaaGreatDoorSH
import Derived.Test.YtpcmbndoagafmaaGreatDoorA
import Derived.Test.YtpcmbndoagafmaaGreatDoorB
import Derived.Test.YtpcmbndoagafmaaGreatDoorC
import Derived.Test.YtpcmbndoagafmaaGreatDoorD
import Derived.Test.YtpcmbndoagafmaaGreatDoorE
import Derived.Test.YtpcmbndoagafmaaGreatDoorF
import Derived.Test.YtpcmbndoagafmaaGreatDoorG
import Derived.Test.YtpcmbndoagafmaaGreatDoorH
import Derived.Test.YtpcmbndoagafmaaGreatDoorI
import Derived.Test.YtpcmbndoagafmaaGreatDoorJ
import Derived.Lib.Replace
import Derived.Lib.ReplaceLaws
import Derived.Lib.CountLaws
import Derived.Lib.Strings
import GoSem.Core.Utf8
import Derived.Lib.Bytealg
import Derived.Lib.SlTrimSet
import Derived.Laws.Entries
import Derived.Lib.ParseIntB
import Derived.Lib.ItoaMem
import Derived.Lib.ItoaLen
import Derived.Lib.Hide
import Derived.Deep.CutBlock
namespace Go.Proofs.YtpcmbndoagafmaaGreatDoor
open Go.RowKit
open _root_.And renaming intro->bT
open _root_.Go.RowKit.Below renaming grown->iL
open _root_.Bool renaming and_eq_true->aQ,false_eq_true->fM,not_eq_true'->nT,or_eq_true->jO
open _root_.Go.Lib renaming cell_of_heap->aG,decDigits->bJ,hid->aB,itoa->dQ
open _root_.List renaming all_eq_true->jA,append_assoc->iK,isEmpty_cons->lW,isEmpty_iff->iZ,length->lV,length_append->bD,length_cons->aX,length_nil->bL,length_singleton->dB,map_append->kW,map_cons->kP,map_nil->qZ,mem_append->iX,mem_cons->dD,mem_of_getElem?->dJ,mem_singleton->gQ,nil_append->cB,range->iU
open _root_.Nat renaming add_comm->oJ,le_refl->aH,le_trans->jH,zero_add->gD,zero_le->dL
open _root_.Option renaming bind_eq_some_iff->dG,bind_some->bU,map_eq_some_iff->aT,map_some->lX
open _root_.Or renaming inr->nA
open _root_.Go.World renaming block_lt_of_cell?->bB
set_option maxRecDepth 100000
set_option maxHeartbeats 16000000
section
end
section
end
section
end
section
end
section
variable {parse:List UInt8->Option (Int×Int×List UInt8)}
end
section
variable {parse:List UInt8->Option (Int×Int×List UInt8)}
theorem a3a(N M:Nat):∀(n:Nat) (s:List UInt8),s.length<=n->∀l,toks parse N s=some l->∃l',toks parse M s=some l'/\l'.map Tok.bare=l.map Tok.bare:=by
 intro n
 induction n with
 |zero=>
  intro s hs l h;obtain rfl:s=[]:=(by simpa using hs);rw[pI] at h;injection h with h;subst h;exact⟨[],pI M,rfl⟩
 |succ n ih=>
  intro s hs l h;rw[mH] at h;have hl:=lT false s;split at h
  ·rename_i h0;injection h with h;subst h;exact⟨[],by rw[mH,if_pos h0],rfl⟩
  ·rename_i h0;obtain⟨x,hx,h⟩:=dG.1 h;obtain⟨l1,h1,rfl⟩:=aT.1 h;have hle:=nN hx;obtain⟨l1',h1',e⟩:=ih ((bX false s).drop x.2.1) (by simp;omega) l1 h1;refine⟨⟨x.1,M-(bX false s).length,(bX false s).take x.2.1,x.2.2⟩::l1',?_,by simp[Tok.bare,e]⟩;rw[mH,if_neg h0,hx];simp only[bU];rw[h1'];rfl
end
section
theorem c4c(a b:List UInt8):(⟨a.toArray⟩:ByteArray)++(⟨b.toArray⟩:ByteArray)=⟨(a++b).toArray⟩:=by
 apply ByteArray.ext;simp
end
section
end
section
end
section
end
section
theorem vB{k n:Int}{l:List UInt8}(h:chk k n l=0):l.length<=1000/\((k=0/\n=0/\l=[])\/(k=1/\n=0/\l=[])\/(k=1/\n=1/\l=[])\/(k=2/\l=[])\/(k=3/\n=0)\/(k=4/\n=0)):=by
 unfold chk at h;split at h
 ·omega
 ·split at h
  ·rename_i h1 h2;refine⟨by omega,?_⟩;rcases h2 with h2|⟨a,b|b,c⟩|h2|h2|h2
   ·exact Or.inl h2
   ·exact nA (Or.inl ⟨a,b,c⟩)
   ·exact nA (nA (Or.inl ⟨a,b,c⟩))
   ·exact nA (nA (nA (Or.inl h2)))
   ·exact nA (nA (nA (nA (Or.inl h2))))
   ·exact nA (nA (nA (nA (nA h2))))
  ·omega
end
section
end
section
theorem c6d(l:List UInt8):qd (dbl l)=some l:=by
 induction l with
 |nil=>rfl
 |cons c r ih=>
  by_cases hc:c=39
  ·subst hc;simp only[dbl,if_true];rw[a9y,ih];rfl
  ·simp only[dbl,if_neg hc];rw[a3l _ _ hc,ih];rfl
theorem b4e(l:List UInt8):unq (39::(dbl l++[39]))=some l:=by
 rw[<-qQ];unfold lU;rw[(wX _ (dbl l)).2 rfl];exact c6d l
theorem c2a(d:Nat)(h:d<16):hv (hexDigit d)=d:=by
 have:∀m:Fin 16,hv (hexDigit m.val)=m.val:=(by decide);exact this ⟨d,h⟩
theorem c1z(d:Nat)(h:d<16):vE (hexDigit d)=true:=by
 have:∀m:Fin 16,vE (hexDigit m.val)=true:=(by decide);exact this ⟨d,h⟩
theorem a8f{c:UInt8}(h:vE c=true):c≠39:=by
 intro e;subst e;exact absurd h (by decide)
theorem a6a(l:List UInt8):wS (hexOf l):=by
 induction l with
 |nil=>exact⟨rfl,fun c hc=>by simp[hexOf] at hc⟩
 |cons c r ih=>
  have hc:=c.toNat_lt;obtain⟨h1,h2⟩:=ih;have e:hexOf (c::r)=hexDigit (c.toNat / 16)::hexDigit (c.toNat % 16)::hexOf r:=(by simp[hexOf]);rw[e];refine⟨by simp;omega,?_⟩;intro x hx;simp only[dD] at hx;rcases hx with rfl|rfl|hx
  ·exact c1z _ (by omega)
  ·exact c1z _ (by omega)
  ·exact h2 x hx
theorem a7j(l:List UInt8):unhex (hexOf l)=l:=by
 induction l with
 |nil=>rfl
 |cons c r ih=>
  have hc:=c.toNat_lt;have e:hexOf (c::r)=hexDigit (c.toNat / 16)::hexDigit (c.toNat % 16)::hexOf r:=(by simp[hexOf]);rw[e];simp only[unhex];rw[ih,c2a _ (by omega),c2a _ (by omega)];have:(16 * ((c.toNat / 16:Nat):Int)+((c.toNat % 16:Nat):Int)).toNat=c.toNat:=(by omega);rw[this];simp
theorem a8o{l:List UInt8}(h:∀c∈l,c≠39):dbl l=l:=by
 induction l with
 |nil=>rfl
 |cons c r ih=>simp only[dbl,if_neg (h c (by simp))];rw[ih fun x hx=>h x (by simp[hx])]
theorem a5z{n:Int}{c:UInt8}(h:(dQ n)[0]?=some c):c=45\/rQ c:=by
 by_cases hn:n<0
 ·unfold dQ at h;rw[if_pos hn] at h;simp at h;exact Or.inl h.symm
 ·unfold dQ at h;rw[if_neg hn] at h;exact nA (uM _ c (dJ h))
theorem vT{s:List UInt8}(h:s[0]?≠some 110)(h1:s[0]?≠some 102)(h2:s[0]?≠some 116):oH s=none:=
 a2i (fun e=>by subst e;simp at h) (fun e=>by subst e;simp at h1) (fun e=>by subst e;simp at h2)
theorem xZ{s:List UInt8}{c:UInt8}(h:s[0]?=some c)(h1:c≠45)(h2:¬rQ c):jX s=none:=
 vP fun n _ e=>by subst e;rcases a5z h with h'|h'<;>contradiction
theorem a3i{k n:Int}{l:List UInt8}(h:chk k n l=0)(hn:I64 n):mW (lit k n l)=some (k,n,l):=by
 obtain⟨_,hc⟩:=vB h;rcases hc with⟨rfl,rfl,rfl⟩|⟨rfl,rfl,rfl⟩|⟨rfl,rfl,rfl⟩|⟨rfl,rfl⟩|⟨rfl,rfl⟩|⟨rfl,rfl⟩
 ·decide
 ·decide
 ·decide
 ·have e:lit 2 n []=dQ n:=by simp[lit]
  rw[e];refine a5j (vT ?_ ?_ ?_) (a1y hn rfl)<;>intro hh<;>rcases a5z hh with h'|h'<;>revert h'<;>first |decide|(unfold rQ;decide)
 ·have e:lit 3 0 l=39::(dbl l++[39]):=by simp[lit,vS]
  rw[e,xM (vT (by simp) (by simp) (by simp)) (xZ (c:=39) rfl (by decide) (by unfold rQ;decide)),xO (by simp),b4e];rfl
 ·have e:lit 4 0 l=120::(39::(hexOf l++[39])):=by simp[lit,uI]
  have hx:=a6a l;rw[e,xM (vT (by simp) (by simp) (by simp)) (xZ (c:=120) rfl (by decide) (by unfold rQ;decide)),xN]
  conv=>lhs;rw[<-a8o fun c hc=>a8f (hx.2 c hc)]
  rw[b4e];simp only[bU,if_pos hx,a7j];rfl
theorem b5y{k n:Int}{l:List UInt8}(h:chk k n l=0)(hn:I64 n):dF (lit k n l)=(k,n,l,0):=by
 simp[dF,a3i h hn,h]
end
section
end
section
mutual
theorem same_eq:∀x y:Ex,kR x y=true->x=y
 | .mk k v t n o a,.mk k' v' t' n' o' a',h=>by
  simp only[kR,aQ,beq_iff_eq] at h;obtain⟨⟨⟨⟨⟨rfl,rfl⟩,rfl⟩,rfl⟩,rfl⟩,h⟩:=h;rw[a9m a a' h]
theorem a9m:∀l m:List Ex,lQ l m=true->l=m
 |[],[],_=>rfl
 |[],_::_,h=>by simp[lQ] at h
 |_::_,[],h=>by simp[lQ] at h
 |x::r,y::s,h=>by
  simp only[lQ,aQ] at h;rw[same_eq x y h.1,a9m r s h.2]
end
theorem b2r{x y:Ex}(h:y∈x.args):SizeOf.sizeOf y<SizeOf.sizeOf x:=by
 cases x with
 |mk k v t n o args=>
  have:=List.sizeOf_lt_of_mem (show y∈args from h);simp only[Ex.mk.sizeOf_spec];omega
end
section
end
section
theorem c3z{s:List UInt8}{b:List kG}(h:bt s=some b)(N:Nat):∃l,toks fP N s=some l/\l.map Tok.bare=b:=by
 unfold bt at h;obtain⟨l,h1,h2⟩:=aT.1 h;obtain⟨l',h3,h4⟩:=a3a (parse:=fP) 0 N s.length s (aH _) l h1;exact⟨l',h3,h4.trans h2⟩
theorem c6x:bt []=some []:=by unfold bt;rw[pI];rfl
theorem nZ(r:List UInt8):bt (32::r)=bt r:=by
 unfold bt;rw[rF 0 (32::r) r (by rw[vI,if_pos (by decide)])]
theorem a6q{t r:List UInt8}{k:Int}{v:Int×Int×List UInt8}(hb:Stops iR (t++r))(h2:¬((t++r).head?=some 45/\(t++r)[1]?=some 45))(hc:rU (t++r)=some (k,t.length))(hv:valOf fP k t=some v):
  bt (t++r)=(bt r).map ((k,t,v)::·):=by
 have hs:=sM hb h2;have hl:=a3y hc;have hne:¬(t++r=[]):=(by intro e;have:=congrArg lV e;rw[bD,bL] at this;omega);have ho:rM fP (t++r)=some (k,t.length,v):=by
  unfold rM;rw[hc];simp only[bU,List.take_left,hv,lX]
 unfold bt;rw[mH,hs,if_neg hne,ho];simp only[bU,List.drop_left,List.take_left];cases toks fP 0 r with
 |none=>rfl
 |some l=>simp[Tok.bare]
theorem a5v{c:UInt8}(h:cZ c=true):iR c=false/\c≠45/\c≠39:=by
 have:=qE (q:=fun c=> !(cZ c)||(!(iR c)&&c != 45&&c != 39)) (by decide+kernel) c;simp only[h] at this;simpa[and_assoc] using this
theorem mZ{s r:List UInt8}(hw:Wd s)(he:yL r):bt (s++r)=(bt r).map ((1,s,(0,0,[]))::·):=by
 obtain⟨c,q,rfl,hl,hq,h30⟩:=hw;obtain⟨f1,f2,f3⟩:=a5v hl;refine a6q ?_ ?_ ?_ rfl
 ·intro d hd;simp at hd;subst hd;exact f1
 ·rintro⟨h,_⟩;simp at h;exact f2 h
 ·have hr:=a0a (p:=jP) (t:=q) (y:=r) hq he.1;have hx:¬(c=120/\(q++r).head?=some 39):=by
   rintro⟨_,h⟩;cases q with
   |nil=>exact he.2 (by simpa using h)
   |cons d q=>
    simp at h;have:=hq d (by simp);subst h;exact absurd this (by decide)
  show rU (c::(q++r))=_;rw[jE,if_pos ⟨hl,hx⟩,hr,if_pos (by simpa using h30)];simp
theorem a8u{t r:List UInt8}{c:UInt8}{q:List UInt8}(e:t=c::q)(hc:cZ c=false/\c≠39/\c≠120/\dI c=false/\iR c=false)(h2:¬((t++r).head?=some 45/\(t++r)[1]?=some 45))(hs:yP c (q++r).head?=t.length):
  bt (t++r)=(bt r).map ((3,t,(0,0,[]))::·):=by
 obtain⟨f1,f2,f3,f4,f5⟩:=hc;refine a6q ?_ h2 ?_ rfl
 ·intro d hd;rw[e] at hd;simp at hd;subst hd;exact f5
 ·have hl:t.length=q.length+1:=by rw[e];simp
  rw[e] at hs⊢;show rU (c::(q++r))=_;rw[jE,if_neg (by simp[f1]),if_neg f2,if_neg f3,if_neg (by simp[f4]),hs,if_neg (by simp)]
theorem qF(c:UInt8)(hc:c=40\/c=41\/c=44\/c=46\/c=42)(r:List UInt8):bt (c::r)=(bt r).map ((3,[c],(0,0,[]))::·):=by
 refine a8u (t:=[c]) (r:=r) (q:=[]) rfl ?_ ?_ ?_
 ·rcases hc with rfl|rfl|rfl|rfl|rfl<;>decide
 ·rcases hc with rfl|rfl|rfl|rfl|rfl<;>simp
 ·rcases hc with rfl|rfl|rfl|rfl|rfl<;>simp[yP]
theorem d0f(o:Int)(h:1<=o/\o<=14)(r:List UInt8):bt (bI o++32::r)=(bt r).map (a7z o::·):=by
 rw[<-nZ r];have:o=1\/o=2\/o=3\/o=4\/o=5\/o=6\/o=7\/o=8\/o=9\/o=10\/o=11\/o=12\/o=13\/o=14:=(by omega);have hw:∀s:List UInt8,Wd s->bt (s++32::r)=(bt (32::r)).map ((1,s,(0,0,[]))::·):=fun s hs=>mZ hs (yL.of r (by decide) (by decide));rcases this with rfl|rfl|rfl|rfl|rfl|rfl|rfl|rfl|rfl|rfl|rfl|rfl|rfl|rfl
 case inr.inr.inr.inr.inr.inr.inr.inr.inr.inr.inr.inr.inl=>exact hw _ ⟨97,[110,100],rfl,by decide,by decide,by decide⟩
 case inr.inr.inr.inr.inr.inr.inr.inr.inr.inr.inr.inr.inr=>exact hw _ ⟨111,[114],rfl,by decide,by decide,by decide⟩
 all_goals exact a8u (r:=32::r) rfl (by decide) (by simp[bI]) (by simp[yP,bI])
theorem c6y(r:List UInt8):bt (45::32::r)=(bt r).map ((3,[45],(0,0,[]))::·):=by
 rw[<-nZ r];exact a8u (t:=[45]) (r:=32::r) rfl (by decide) (by simp) (by simp[yP])
theorem a9x(l:List UInt8){r:List UInt8}(hr:r.head?≠some 39):oO (dbl l++39::r)=some ((dbl l).length+1):=by
 induction l with
 |nil=>simp[dbl,uU hr]
 |cons c l ih=>
  unfold dbl;split
  ·simp only[List.cons_append,uF,ih];simp
  ·rename_i hc;simp only[List.cons_append];rw[oG hc,ih];simp
theorem c6q{c:UInt8}(h:rQ c):dI c=true:=by
 unfold rQ at h;unfold dI;simp only[aQ,decide_eq_true_eq];exact⟨by rw[UInt8.le_iff_toNat_le];exact h.1,by rw[UInt8.le_iff_toNat_le];exact h.2⟩
theorem a8l{c:UInt8}(h:dI c=true):iR c=false/\cZ c=false/\c≠39/\c≠120/\c≠45:=by
 have:=qE (q:=fun c=> !(dI c)||(!(iR c)&& !(cZ c)&&c != 39&&c != 120&&c != 45)) (by decide+kernel) c;simp only[h] at this;simpa[and_assoc] using this
theorem b7o{s r:List UInt8}(hs:s≠[])(hd:∀c∈s,dI c=true)(he:yL r){v:Int×Int×List UInt8}(hv:fP s=some v):bt (s++r)=(bt r).map ((2,s,v)::·):=by
 cases s with
 |nil=>exact absurd rfl hs
 |cons c q=>
  obtain⟨f1,f2,f3,f4,f5⟩:=a8l (hd c (by simp));have hst:Stops dI r:=fun d h=>by
   have:=he.1 d h;unfold jP at this;simp at this;exact this.2
  have hr:=a0a (p:=dI) (t:=q) (y:=r) (fun d h=>hd d (by simp[h])) hst;refine a6q ?_ ?_ ?_ (by unfold valOf;rw[if_pos rfl];exact hv)
  ·intro d h;simp at h;subst h;exact f1
  ·rintro⟨h,_⟩;simp at h;exact f5 h
  ·show rU (c::(q++r))=_;rw[jE,if_neg (by simp[f2]),if_neg f3,if_neg f4,if_pos (by rw[hd c (by simp)]),hr,List.drop_left,if_neg]
   ·simp
   ·cases hh:r.head? with
    |none=>simp
    |some d=>
     have:=he.1 d hh;unfold jP at this;simp at this;simp[this.1]
theorem c6w{k n:Int}{l:List UInt8}(h:chk k n l=0)(hn:I64 n)(h2:k=2->0<=n){r:List UInt8}(he:yL r):bt (lit k n l++r)=(bt r).map (oW (k,n,l)::·):=by
 have hp:fP (lit k n l)=some (k,n,l):=(by unfold fP;rw[b5y h hn];rfl);obtain⟨hl,hc⟩:=vB h;rcases hc with⟨rfl,rfl,rfl⟩|⟨rfl,rfl,rfl⟩|⟨rfl,rfl,rfl⟩|⟨rfl,rfl⟩|⟨rfl,rfl⟩|⟨rfl,rfl⟩
 ·exact mZ ⟨110,[117,108,108],rfl,by decide,by decide,by decide⟩ he
 ·exact mZ ⟨102,[97,108,115,101],rfl,by decide,by decide,by decide⟩ he
 ·exact mZ ⟨116,[114,117,101],rfl,by decide,by decide,by decide⟩ he
 ·have e:lit 2 n []=bJ n.toNat:=by
   have h0:=h2 rfl;unfold lit;rw[if_neg (by decide),if_neg (by decide),if_pos rfl,dQ,if_neg (by omega)]
  have ev:oW (2,n,[])=(2,lit 2 n [],(2,n,[])):=(by unfold oW;rw[if_neg (by simp)]);rw[ev,e];rw[e] at hp;exact b7o (a6m _) (fun c hc=>c6q (uM _ c hc)) he hp
 ·have ev:oW (3,0,l)=(2,lit 3 0 l,(3,0,l)):=by unfold oW;rw[if_neg (by simp)]
  have e:lit 3 0 l=39::(dbl l++[39]):=(by simp[lit,vS]);rw[ev];refine a6q ?_ ?_ ?_ (by unfold valOf;rw[if_pos rfl];exact hp)
  ·rw[e];intro d hd;simp at hd;subst hd;decide
  ·rw[e];rintro⟨h,_⟩;simp at h
  ·rw[e];show rU (39::(dbl l++[39]++r))=_;rw[jE,if_neg (fun h=>absurd h.1 (by decide)),if_pos rfl,iK];rw[show[39]++r=39::r from rfl,a9x l he.2];simp
 ·have ev:oW (4,0,l)=(2,lit 4 0 l,(4,0,l)):=by unfold oW;rw[if_neg (by simp)]
  have e:lit 4 0 l=120::(39::(hexOf l++[39])):=(by simp[lit,uI]);have hx:=a6a l;have hd:=a8o fun c hc=>a8f (hx.2 c hc);rw[ev];refine a6q ?_ ?_ ?_ (by unfold valOf;rw[if_pos rfl];exact hp)
  ·rw[e];intro d hd;simp at hd;subst hd;decide
  ·rw[e];rintro⟨h,_⟩;simp at h
  ·rw[e];show rU (120::(39::(hexOf l++[39]++r)))=_;rw[jE,if_neg (by simp),if_neg (by decide),if_pos rfl,iK];rw[show[39]++r=39::r from rfl,List.drop_one,List.tail_cons];have:=a9x (hexOf l) he.2;rw[hd] at this;rw[this];simp
end
section
theorem a9i(l:List Ex):c5s l=l.map tkE:=by
 induction l with
 |nil=>simp[c5s]
 |cons x r ih=>simp[c5s,ih]
def Lx(s:List UInt8)(b:List kG):Prop:=∀r,yL r->bt (s++r)=(bt r).map (b++·)
theorem d1b(o:Option (List kG))(a b:List kG):(o.map (b++·)).map (a++·)=o.map ((a++b)++·):=by
 cases o<;>simp
theorem c3j(o:Option (List kG))(a:kG)(b:List kG):(o.map (b++·)).map (a::·)=o.map ((a::b)++·):=by
 cases o<;>simp
theorem c7u(o:Option (List kG))(a:kG):o.map (a::·)=o.map ([a]++·):=by
 cases o<;>simp
theorem a4c:∀(l:List Ex),(∀y∈l,Lx (eY y) (tkE y))->l≠[]->Lx (jR [44,32] (l.map eY)) (lJ (l.map tkE))
 |[],_,h=>absurd rfl h
 |[x],h,_=>h x (by simp)
 |x::y::l,h,_=>by
  intro r hr;have ih:=a4c (y::l) (fun z hz=>h z (by simp[hz])) (by simp) r hr;have e:jR [44,32] ((x::y::l).map eY)++r=eY x++(44::32::(jR [44,32] ((y::l).map eY)++r)):=by
   simp[jR]
  have e2:lJ ((x::y::l).map tkE)=tkE x++(sg 44::lJ ((y::l).map tkE)):=(by simp[lJ]);rw[e,e2,h x (by simp) _ (yL.of _ (by decide) (by decide)),qF 44 (by simp),nZ,ih];rw[show((3,[44],(0,0,[])):kG)=sg 44 from rfl,c3j,d1b]
theorem a4d{f:List UInt8}(hf:Wd f){s:List UInt8}{b:List kG}(h:Lx s b)(r:List UInt8):bt (f++[40]++s++[41]++r)=(bt r).map (wY f b++·):=by
 have e:f++[40]++s++[41]++r=f++(40::(s++(41::r))):=(by simp);rw[e,mZ hf (yL.of _ (by decide) (by decide)),qF 40 (by simp),h _ (yL.of _ (by decide) (by decide)),qF 41 (by simp)];rw[c7u (bt r),d1b,c3j,c3j];rfl
theorem a9j{n:List UInt8}(h:gP.contains n=true):Wd n:=by
 have:n=gX\/n=c1m\/n=c1n\/n=c1o:=(by simpa[gP] using h);rcases this with rfl|rfl|rfl|rfl
 ·exact⟨99,[111,117,110,116],rfl,by decide,by decide,by decide⟩
 ·exact⟨115,[117,109],rfl,by decide,by decide,by decide⟩
 ·exact⟨109,[105,110],rfl,by decide,by decide,by decide⟩
 ·exact⟨109,[97,120],rfl,by decide,by decide,by decide⟩
theorem a0u{x:Ex}(h:eH x=true):a9r x=true/\∀y∈x.args,eH y=true:=by
 cases x with
 |mk k v t n o args=>
  simp only[eH,aQ,vY,jA] at h;exact h
theorem a3r{α:Type}{l:List α}(h:l.length=1):∃a,l=[a]:=by
 match l,h with
 |[a],_=>exact⟨a,rfl⟩
theorem b0g{α:Type}{l:List α}(h:l.length=2):∃a b,l=[a,b]:=by
 match l,h with
 |[a,b],_=>exact⟨a,b,rfl⟩
theorem b4o:∀(m:Nat) (x:Ex),SizeOf.sizeOf x<=m->eH x=true->Fits x->Lx (eY x) (tkE x)
 |0,x,hm,_,_=>by cases x;simp at hm
 |m+1,x,hm,hc,hf=>by
  obtain⟨hr,hca⟩:=a0u hc;have ih:∀y∈x.args,Lx (eY y) (tkE y):=fun y hy=>b4o m y (by have:=b2r hy;omega) (hca y hy) (by
   cases hf with
   |mk _ _ _ _ _ _ _ ha=>exact ha y hy)
  cases hf with
  |mk k v t n o args hi _=>
  simp only[Ex.args] at ih;simp only[eY,tkE,vG,a9i]
  replace hr:dV k v t n o args=true:=hr
  unfold dV at hr;intro r hend;unfold uB b4p;by_cases h1:k=1
  ·rw[if_pos h1] at hr⊢;rw[if_pos h1];simp only[aQ,beq_iff_eq,jO,bne_iff_ne,decide_eq_true_eq] at hr;rw[c6w hr.1.2 hi (fun e=>by rcases hr.2 with h|h;exact absurd e h;exact h) hend,c7u]
  rw[if_neg h1] at hr⊢;rw[if_neg h1];by_cases h2:k=2
  ·rw[if_pos h2] at hr⊢;rw[if_pos h2];simp only[aQ,beq_iff_eq,jO] at hr;have hn:=(rO hr.1.2).1;by_cases ht:t=[]
   ·rw[if_pos ht,if_pos ht,mZ hn hend,c7u];rfl
   ·have htw:=(rO (hr.2.resolve_left ht)).1;rw[if_neg ht,if_neg ht];have e:t++[46]++n++r=t++(46::(n++r)):=(by simp);rw[e,mZ htw (yL.of _ (by decide) (by decide)),qF 46 (by simp),mZ hn hend];generalize bt r=z;cases z<;>simp[sg,wd]
  rw[if_neg h2] at hr⊢;rw[if_neg h2];by_cases h3:k=3
  ·rw[if_pos h3] at hr;simp only[aQ,beq_iff_eq,decide_eq_true_eq] at hr;obtain⟨⟨_,ho⟩,hlen⟩:=hr;have h4:¬k=4:=(by omega);have h5:¬k=5:=(by omega);rw[if_neg h4,if_neg h4,if_neg h5,if_neg h5];by_cases hm2:fJ o=2
   ·rw[if_pos hm2,if_pos hm2];have ho2:1<=o/\o<=14:=(by unfold fJ at hm2;split at hm2;assumption;split at hm2<;>omega);obtain⟨a,b,rfl⟩:=b0g (hlen.trans hm2);have e:mR [(List.map eY [a,b]).getD 0 [],bI o,(List.map eY [a,b]).getD 1 []]++r=40::(eY a++(32::(bI o++32::(eY b++(41::r))))):=by
     simp[mR,jR]
    rw[e,qF 40 (by simp),ih a (by simp) _ (yL.of _ (by decide) (by decide)),nZ,d0f o ho2,ih b (by simp) _ (yL.of _ (by decide) (by decide)),qF 41 (by simp)];generalize bt r=z;cases z<;>simp[sg]
   ·rw[if_neg hm2,if_neg hm2];have ho2:15<=o/\o<=20:=by
     unfold fJ at hm2;split at hm2
     ·exact absurd rfl hm2
     ·omega
    have hm1:fJ o=1:=(by unfold fJ;rw[if_neg (by omega),if_pos (by omega)]);obtain⟨a,rfl⟩:=a3r (hlen.trans hm1);by_cases h19:o=19\/o=20
    ·rw[if_pos h19,if_pos h19];have hw:Wd (bI o):=by
      rcases h19 with rfl|rfl
      ·exact⟨108,[101,110,103,116,104],rfl,by decide,by decide,by decide⟩
      ·exact⟨97,[98,115],rfl,by decide,by decide,by decide⟩
     exact a4d hw (a4c [a] ih (by simp)) r
    ·rw[if_neg h19,if_neg h19];by_cases h17:o=17\/o=18
     ·rw[if_pos h17,if_pos h17];have w1:Wd sIs:=⟨105,[115],rfl,by decide,by decide,by decide⟩
      have w2:Wd gN:=⟨110,[117,108,108],rfl,by decide,by decide,by decide⟩
      have w3:Wd rW:=⟨110,[111,116],rfl,by decide,by decide,by decide⟩
      rcases h17 with rfl|rfl
      ·have e:mR [(List.map eY [a]).getD 0 [],bI 17]++r=40::(eY a++(32::(sIs++(32::(gN++(41::r)))))):=by
        simp[mR,jR,bI,sIs,gN]
       rw[e,qF 40 (by simp),ih a (by simp) _ (yL.of _ (by decide) (by decide)),nZ,mZ w1 (yL.of _ (by decide) (by decide)),nZ,mZ w2 (yL.of _ (by decide) (by decide)),qF 41 (by simp)];generalize bt r=z;cases z<;>simp[sg,wd,wR]
      ·have e:mR [(List.map eY [a]).getD 0 [],bI 18]++r=40::(eY a++(32::(sIs++(32::(rW++(32::(gN++(41::r)))))))):=by
        simp[mR,jR,bI,sIs,gN,rW]
       rw[e,qF 40 (by simp),ih a (by simp) _ (yL.of _ (by decide) (by decide)),nZ,mZ w1 (yL.of _ (by decide) (by decide)),nZ,mZ w3 (yL.of _ (by decide) (by decide)),nZ,mZ w2 (yL.of _ (by decide) (by decide)),qF 41 (by simp)];generalize bt r=z;cases z<;>simp[sg,wd,wR]
     ·rw[if_neg h17,if_neg h17];have h15:o=15\/o=16:=(by omega);have w3:Wd rW:=⟨110,[111,116],rfl,by decide,by decide,by decide⟩
      rcases h15 with rfl|rfl
      ·have e:mR [bI 15,(List.map eY [a]).getD 0 []]++r=40::(45::32::(eY a++(41::r))):=by
        simp[mR,jR,bI]
       rw[e,qF 40 (by simp),c6y,ih a (by simp) _ (yL.of _ (by decide) (by decide)),qF 41 (by simp)];generalize bt r=z;cases z<;>simp[sg,b5u]
      ·have e:mR [bI 16,(List.map eY [a]).getD 0 []]++r=40::(rW++(32::(eY a++(41::r)))):=by
        simp[mR,jR,bI,rW]
       rw[e,qF 40 (by simp),mZ w3 (yL.of _ (by decide) (by decide)),nZ,ih a (by simp) _ (yL.of _ (by decide) (by decide)),qF 41 (by simp)];generalize bt r=z;cases z<;>simp[sg,wd,b5u]
  rw[if_neg h3] at hr;by_cases h4:k=4
  ·rw[if_pos h4] at hr⊢;rw[if_pos h4];have hne:args≠[]:=by
    simp only[aQ,nT,List.isEmpty_eq_false_iff] at hr;exact hr.2
   have hw:Wd bZ:=⟨99,[111,97,108,101,115,99,101],rfl,by decide,by decide,by decide⟩
   exact a4d hw (a4c args ih hne) r
  rw[if_neg h4] at hr⊢;rw[if_neg h4];by_cases h5:k=5
  ·rw[if_pos h5] at hr⊢;rw[if_pos h5];simp only[aQ] at hr;have hw:=a9j hr.1.2;cases args with
   |nil=>
    refine a4d hw (s:=jR [44,32] [[42]]) (b:=[sg 42]) ?_ r;intro r2 _;show bt (42::r2)=_;rw[qF 42 (by simp),c7u];rfl
   |cons a l=>exact a4d hw (a4c (a::l) ih (by simp)) r
  ·rw[if_neg h5] at hr;cases hr
end
section
theorem gZ{ts:List Tok}{k:Nat}{b:kG}{m:List kG}(h:Rest ts k (b::m)){s:List UInt8}(hb:bIs b s=false)(l:List (List UInt8)):bH ts k (s::l)=none:=by
 obtain⟨x,hx,rfl⟩:=h.head;rw[nK hx,b7p,hb,if_neg (by simp)]
theorem wM{ts:List Tok}{k:Nat}{b:kG}{m:List kG}(h:Rest ts k (b::m)):∀(l:List Int),(∀o∈l,bIs b (bI o)=false)->fI ts k l=none
 |[],_=>rfl
 |o::l,ho=>by
  unfold fI;rw[gZ h (ho o (by simp))];exact wM h l fun p hp=>ho p (by simp[hp])
theorem iM{ts:List Tok}{k:Nat}{b:kG}{m:List kG}(h:Rest ts k (b::m))(hm:m≠[])(o:Int):∀(l r:List Int),(∀p∈l,bIs b (bI p)=false)->bIs b (bI o)=true->fI ts k (l++o::r)=some (o,k+1)
 |[],r,_,hb=>by
  show fI ts k (o::r)=_;unfold fI;rw[sK h hm hb];rfl
 |p::l,r,hl,hb=>by
  show fI ts k (p::(l++o::r))=_;unfold fI;rw[gZ h (hl p (by simp))];exact iM h hm o l r (fun q hq=>hl q (by simp[hq])) hb
def a0h(o:Int):Nat:=if o=14 then 0 else if o=13 then 1 else if 7<=o then 3 else if o=6 then 4 else if o<=2 then 5 else 6
def xB(n:Nat)(b:kG):Prop:=(∀o∈dZ n,bIs b (bI o)=false)/\(n=3->bIs b sIs=false)
def a9a(b:kG):Prop:=bIs b rW=false/\bIs b [45]=false/\bIs b [42]=false
theorem b6d{ts:List Tok}{n k d:Nat}{x:Ex}{b:kG}{m:List kG}(hr:Rest ts k (b::m))(hs:∀o∈dZ n,bIs b (bI o)=false):Ev fun f=>dW ts f (.lp n k d x)= .good k x:=
 Ev.step (Ev.of fun f=>by rw[wG,wM hr _ hs])
theorem lift{ts:List Tok}{n k d k2:Nat}{y:Ex}{b:kG}{m:List kG}(hn:n<=6)(h:Ev fun f=>dW ts f (.rd (n+1) k d)= .good k2 y)(hr:Rest ts k2 (b::m))(hs:xB n b)(h2:n=2->bH ts k [rW]=none):
  Ev fun f=>dW ts f (.rd n k d)= .good k2 y:=by
 apply Ev.step;by_cases e2:n=2
 ·subst e2;refine h.mono fun f hf=>?_;rw[a1b,h2 rfl];exact hf
 by_cases e3:n=3
 ·subst e3;refine h.mono fun f hf=>?_;rw[xD];unfold a4k;rw[show dW ts f (.rd 4 k d)= .good k2 y from hf];simp only[Res.bind];rw[wM hr _ hs.1,gZ hr (hs.2 rfl),gZ hr (hs.2 rfl)]
 ·refine(h.and (b6d (n:=n) (d:=d) (x:=y) hr hs.1)).mono fun f hf=>?_;rw[uP _ _ _ _ e2 (by omega) e3,hf.1];exact hf.2
theorem lifts{ts:List Tok}{k d k2:Nat}{y:Ex}{b:kG}{m:List kG}{L:Nat}(hL:L<=7)(h:Ev fun f=>dW ts f (.rd L k d)= .good k2 y)(hr:Rest ts k2 (b::m))(h2:bH ts k [rW]=none\/L<=2):
  ∀(c n:Nat),n+c=L->(∀j,n<=j->j<L->xB j b)->Ev fun f=>dW ts f (.rd n k d)= .good k2 y
 |0,n,e,_=>by
  obtain rfl:n=L:=(by omega);exact h
 |c+1,n,e,hs=>by
  have ih:=lifts hL h hr h2 c (n+1) (by omega) (fun j hj hj2=>hs j (by omega) hj2);refine lift (by omega) ih hr (hs n (aH _) (by omega)) ?_;intro e2;rcases h2 with h2|h2
  ·exact h2
  ·omega
def vL(l:List kG):Prop:=∃c q,l=c::q/\a9a c
theorem kL{dp:Nat}{x:Ex}(h:Alone dp x)(hb:vL (tkE x)){ts:List Tok}{k d n:Nat}{b:kG}{m:List kG}(hn:n<=7)(hr:Rest ts k (tkE x++b::m))(he:c4d b)(hd:d+dp<=60)(hs:∀j,n<=j->j<7->xB j b):
  Ev fun f=>dW ts f (.rd n k d)= .good (k+(tkE x).length) x:=by
 obtain⟨c,q,e,hc⟩:=hb;have hr0:Rest ts k (c::(q++b::m)):=(by rw[e] at hr;exact hr);have h7:Ev fun f=>dW ts f (.rd 7 k d)= .good (k+(tkE x).length) x:=by
  apply Ev.step;refine(h ts k d b m hr he hd).mono fun f hf=>?_;rw[a1a,gZ hr0 hc.2.1];exact hf
 exact lifts (aH 7) h7 hr.app (.inl (gZ hr0 hc.1 _)) (7-n) n (by omega) hs
theorem fourteen{o:Int}(h:1<=o/\o<=14):o=1\/o=2\/o=3\/o=4\/o=5\/o=6\/o=7\/o=8\/o=9\/o=10\/o=11\/o=12\/o=13\/o=14:=by omega
theorem b8x{ts:List Tok}{k:Nat}{m:List kG}{o:Int}(ho:1<=o/\o<=14)(h:Rest ts k (a7z o::m))(hm:m≠[]):fI ts k (dZ (a0h o))=some (o,k+1):=by
 rcases fourteen ho with rfl|rfl|rfl|rfl|rfl|rfl|rfl|rfl|rfl|rfl|rfl|rfl|rfl|rfl
 ·exact iM h hm 1 [] [2] (by decide) (by decide)
 ·exact iM h hm 2 [1] [] (by decide) (by decide)
 ·exact iM h hm 3 [] [4,5] (by decide) (by decide)
 ·exact iM h hm 4 [3] [5] (by decide) (by decide)
 ·exact iM h hm 5 [3,4] [] (by decide) (by decide)
 ·exact iM h hm 6 [] [] (by decide) (by decide)
 ·exact iM h hm 7 [] [8,9,10,11,12] (by decide) (by decide)
 ·exact iM h hm 8 [7] [9,10,11,12] (by decide) (by decide)
 ·exact iM h hm 9 [7,8] [10,11,12] (by decide) (by decide)
 ·exact iM h hm 10 [7,8,9] [11,12] (by decide) (by decide)
 ·exact iM h hm 11 [7,8,9,10] [12] (by decide) (by decide)
 ·exact iM h hm 12 [7,8,9,10,11] [] (by decide) (by decide)
 ·exact iM h hm 13 [] [] (by decide) (by decide)
 ·exact iM h hm 14 [] [] (by decide) (by decide)
def c5v(j:Nat)(b:kG):Bool:=(dZ j).all (fun o=> !bIs b (bI o))&&(j != 3|| !bIs b sIs)
theorem zR{j:Nat}{b:kG}(h:c5v j b=true):xB j b:=by
 unfold c5v at h;simp only[aQ,jA,nT,jO,bne_iff_ne] at h;exact⟨h.1,fun e=>by rcases h.2 with h|h;exact absurd e h;exact h⟩
theorem seven{j:Nat}(h:j<7):j=0\/j=1\/j=2\/j=3\/j=4\/j=5\/j=6:=by omega
theorem b9t{o:Int}(ho:1<=o/\o<=14):c4d (a7z o)/\a0h o<=6/\a0h o≠2/\∀j,a0h o+1<=j->j<7->xB j (a7z o):=by
 rcases fourteen ho with rfl|rfl|rfl|rfl|rfl|rfl|rfl|rfl|rfl|rfl|rfl|rfl|rfl|rfl
 all_goals
  refine⟨⟨by decide,by decide⟩,by decide,by decide,?_⟩;intro j hj h7;rcases seven h7 with rfl|rfl|rfl|rfl|rfl|rfl|rfl<;>first |exact zR (by decide)|exact absurd hj (by decide)
theorem jL(j:Nat)(h:j<7):xB j (sg 41):=by
 rcases seven h with rfl|rfl|rfl|rfl|rfl|rfl|rfl<;>exact zR (by decide)
theorem a8t(j:Nat)(h:j<7):xB j (sg 44):=by
 rcases seven h with rfl|rfl|rfl|rfl|rfl|rfl|rfl<;>exact zR (by decide)
theorem b9n{da dc:Nat}{a c:Ex}(hA:Alone da a)(hC:Alone dc c)(bA:vL (tkE a))(bC:vL (tkE c)){o:Int}(ho:1<=o/\o<=14){ts:List Tok}{k d:Nat}{m:List kG}(hd:d+da<=60)(hd2:d+dc<=60)
  (hr:Rest ts k (tkE a++a7z o::(tkE c++sg 41::m))):Ev fun f=>dW ts f (.rd 0 k d)= .good (k+(tkE a).length+1+(tkE c).length) (opE o [a,c]):=by
 obtain⟨hN,hL,hL2,hS⟩:=b9t ho;have h1:=kL hA bA (n:=a0h o+1) (by omega) hr hN hd hS;have hr2:=hr.app;have ht:=b8x ho hr2 (by simp);have hr3:=hr2.tail;have h2:=kL hC bC (n:=a0h o+1) (by omega) hr3 ⟨by decide,by decide⟩ hd2 (fun j _ hj=>jL j hj);have hr4:=hr3.app;have hfirst:bH ts k [rW]=none:=by
  obtain⟨x,q,e,hx⟩:=bA;rw[e] at hr;exact gZ hr hx.1 _
 have hL':Ev fun f=>dW ts f (.rd (a0h o) k d)= .good (k+(tkE a).length+1+(tkE c).length) (opE o [a,c]):=by
  apply Ev.step;by_cases e3:a0h o=3
  ·rw[e3] at h1 h2 ht⊢;refine(h1.and h2).mono fun f hf=>?_;rw[xD];unfold a4k;rw[show dW ts f (.rd 4 k d)=_ from hf.1];simp only[Res.bind];rw[ht];simp only;rw[show dW ts f (.rd 4 _ d)=_ from hf.2]
  ·have h3:=b6d (n:=a0h o) (d:=d) (x:=opE o [a,c]) hr4 (jL _ (by omega)).1;have h4:Ev fun f=>dW ts f (.lp (a0h o) (k+(tkE a).length) d a)= .good (k+(tkE a).length+1+(tkE c).length) (opE o [a,c]):=by
    apply Ev.step;refine(h2.and h3).mono fun f hf=>?_;rw[wG,ht];simp only;rw[hf.1];exact hf.2
   refine(h1.and h4).mono fun f hf=>?_;rw[uP _ _ _ _ hL2 (by omega) e3,hf.1];exact hf.2
 exact lifts (by omega) hL' hr4 (.inl hfirst) (a0h o) 0 (by omega) (fun j _ hj=>jL j (by omega))
theorem paren{ts:List Tok}{k d k2:Nat}{y:Ex}{m:List kG}{b:kG}(h0:∃q,Rest ts k (sg 40::q)/\q≠[])(hd:d<60)(h:Ev fun f=>dW ts f (.rd 0 (k+1) (d+1))= .good k2 y)(hr:Rest ts k2 (sg 41::b::m)):
  Ev fun f=>kV ts (dW ts f) k d= .good (k2+1) y:=by
 obtain⟨q,hq,hne⟩:=h0;obtain⟨x,hx,hb⟩:=hq.head;have hk:x.k=3:=congrArg Prod.fst hb;refine h.mono fun f hf=>?_;unfold kV;rw[hx];simp only;rw[if_neg (by omega)];have hc:fZ ts k [(kE,0),(nW,1),(gN,2)]=none:=by
  unfold fZ;rw[gZ hq (by decide)];unfold fZ;rw[gZ hq (by decide)];unfold fZ;rw[gZ hq (by decide)];rfl
 rw[hc];simp only;rw[take_one hq hne (by decide)];simp only;rw[hf];unfold fB;rw[if_pos hd];simp only[Res.bind];rw[take_one hr (by simp) (by decide)]
end
section
mutual
def rY:Ex->Nat
 | .mk _ _ _ _ o args=>(if args.isEmpty then 0 else 1)+nV args+(if o=16\/o=15 then 1 else 0)
def nV:List Ex->Nat
 |[]=>0
 |x::r=>max (rY x) (nV r)
end
theorem xR:∀{l:List Ex} {y:Ex},y∈l->rY y<=nV l
 |x::l,y,h=>by
  simp only[nV];rcases dD.1 h with rfl|h
  ·omega
  ·have:=xR h;omega
structure a6u(f:List UInt8):Prop where
 word:Wd f
 kw:kwB f=false
theorem a3o{f:List UInt8}(h:a6u f)(c:UInt8)(hc:cZ c=false):(f==[c])=false:=by
 obtain⟨d,r,e,hl,_,_⟩:=h.word;rw[e];cases hq:(d::r==[c])
 ·rfl
 ·have:=eq_of_beq hq;injection this with h1 _;rw[h1,hc] at hl;cases hl
theorem b9y{f s:List UInt8}(h:kwB f=false)(hs:kwB s=true):(f==s)=false:=by
 cases hq:(f==s)
 ·rfl
 ·have:=eq_of_beq hq;rw[this,hs] at h;cases h
theorem rP{f:List UInt8}(h:a6u f):a9a (wd f):=by
 refine⟨?_,?_,?_⟩
 ·show(true&&(f==rW))=false;rw[b9y h.kw (by rfl)];rfl
 ·show(true&&(f==[45]))=false;rw[a3o h 45 (by decide)];rfl
 ·show(true&&(f==[42]))=false;rw[a3o h 42 (by decide)];rfl
theorem b3d{ts:List Tok}{k:Nat}{b:kG}{m:List kG}(h:Rest ts k (b::m))(h1:bIs b kE=false)(h2:bIs b nW=false)(h3:bIs b gN=false):fZ ts k [(kE,0),(nW,1),(gN,2)]=none:=by
 unfold fZ;rw[gZ h h1];unfold fZ;rw[gZ h h2];unfold fZ;rw[gZ h h3];rfl
theorem vC{ts:List Tok}{run:Job->Res}{k d:Nat}{f:List UInt8}{m:List kG}(hf:a6u f)(h:Rest ts k (wd f::m))(hm:m≠[]):
    kV ts run k d=match bH ts (k+1) [[40]] with
            |some k2=>iW ts run f k2 d
            |none=>match bH ts (k+1) [[46]] with
              |some k2=>match mM ts k2 with
                |none=> .bad 261
                |some (c,k3)=> .good k3 (b3w f c)
              |none=> .good (k+1) (b3w [] f):=by
  obtain⟨x,hx,hb⟩:=h.head;have hk:x.k=1:=congrArg Prod.fst hb;have ht:x.t=f:=congrArg (fun b:kG=>b.2.1) hb;have hc:=b3d h (by show(true&&(f==kE))=false;rw[b9y hf.kw (by rfl)];rfl) (by show(true&&(f==nW))=false;rw[b9y hf.kw (by rfl)];rfl) (by show(true&&(f==gN))=false;rw[b9y hf.kw (by rfl)];rfl);have hn:mM ts k=some (f,k+1):=by
    unfold mM;rw[hx];simp only;rw[if_pos (by unfold fH;rw[hk,ht,hf.kw];rfl),ht,h.next hm]
  unfold kV;rw[hx];simp only;rw[if_neg (by omega),hc];simp only;rw[gZ h (by show(true&&(f==[40]))=false;rw[a3o hf 40 (by decide)];rfl),hn]
  try rfl
theorem b0x{nm:List UInt8}{d dp:Nat}(hd:d<60)(hdp:d+1+dp<=60):∀(l:List Ex) (ts:List Tok) (k:Nat) (acc:List Ex) (m:List kG),l≠[]->(∀y∈l,Alone dp y/\vL (tkE y))->(nm=bZ\/l.length=1)->m≠[]->
  Rest ts k (lJ (l.map tkE)++sg 41::m)->Ev fun f=>dW ts f (.args nm k d acc)= .good (k+(lJ (l.map tkE)).length+1) (qO nm (acc++l))
 |[],_,_,_,_,h,_,_,_,_=>absurd rfl h
 |[x],ts,k,acc,m,_,hl,_,hm,hr=>by
  obtain⟨hA,hB⟩:=hl x (by simp);have hr1:Rest ts k (tkE x++sg 41::m):=hr;have h1:=kL hA hB (n:=0) (d:=d+1) (by omega) hr1 ⟨by decide,by decide⟩ (by omega) (fun j _ hj=>jL j hj);have hr2:=hr1.app;apply Ev.step;refine h1.mono fun f hf=>?_;rw[sF,hf];unfold fB;rw[if_pos hd];simp only[Res.bind];have e:(if nm=bZ then bH ts (k+(tkE x).length) [[44]] else none)=none:=by
   split
   ·exact gZ hr2 (by decide) _
   ·rfl
  rw[e];simp only;rw[take_one hr2 hm (by decide)];rfl
 |x::y::l,ts,k,acc,m,_,hl,hone,hm,hr=>by
  obtain⟨hA,hB⟩:=hl x (by simp);have hco:nm=bZ:=by
   rcases hone with h|h
   ·exact h
   ·simp at h
  have ej:lJ ((x::y::l).map tkE)=tkE x++sg 44::lJ ((y::l).map tkE):=(by simp[lJ]);have hr1:Rest ts k (tkE x++sg 44::(lJ ((y::l).map tkE)++sg 41::m)):=(by rw[ej] at hr;simpa using hr);have h1:=kL hA hB (n:=0) (d:=d+1) (by omega) hr1 ⟨by decide,by decide⟩ (by omega) (fun j _ hj=>a8t j hj);have hr2:=hr1.app;have hr3:=hr2.tail;have ih:=b0x hd hdp (y::l) ts (k+(tkE x).length+1) (acc++[x]) m (by simp) (fun z hz=>hl z (by simp[hz])) (.inl hco) hm hr3;apply Ev.step;refine(h1.and ih).mono fun f hf=>?_;rw[sF,hf.1];unfold fB;rw[if_pos hd];simp only[Res.bind];rw[if_pos hco,take_one hr2 (by simp) (by decide)];simp only;rw[hf.2,ej];simp[Nat.add_assoc,oJ,Nat.add_left_comm]
theorem a4b{f:List UInt8}(hf:a6u f)(hk:tO f=true){d dp:Nat}{l:List Ex}(hne:l≠[])(hl:∀y∈l,Alone dp y/\vL (tkE y))(hone:f=bZ\/l.length=1){ts:List Tok}{k:Nat}{b:kG}{m:List kG}(hd:d+1+dp<=60)
  (hr:Rest ts k (wY f (lJ (l.map tkE))++b::m)):Ev fun g=>kV ts (dW ts g) k d= .good (k+(wY f (lJ (l.map tkE))).length) (qO f l):=by
 have hr1:Rest ts k (wd f::sg 40::(lJ (l.map tkE)++sg 41::b::m)):=(by simpa[wY] using hr);have hr2:=hr1.tail;have hr3:=hr2.tail;have h1:=b0x (nm:=f) (d:=d) (by omega) hd l ts (k+1+1) [] (b::m) hne hl hone (by simp) hr3;have hnostar:f=gX->bH ts (k+1+1) [[42],[41]]=none:=fun _=>by
  cases l with
  |nil=>exact absurd rfl hne
  |cons x r=>
   obtain⟨c,q,e,hc⟩:=(hl x (by simp)).2;cases r with
   |nil=>
    have:Rest ts (k+1+1) (c::(q++sg 41::b::m)):=by
     have:=hr3;simp only[kP,qZ,lJ,e] at this;exact this
    exact gZ this hc.2.2 _
   |cons y r=>
    have:Rest ts (k+1+1) (c::(q++sg 44::lJ ((y::r).map tkE)++sg 41::b::m)):=by
     have:=hr3;simp only[kP,lJ,e] at this;simpa using this
    exact gZ this hc.2.2 _
 refine h1.mono fun g hg=>?_;rw[vC hf hr1 (by simp),take_one hr2 (by simp) (by decide)];simp only;unfold iW;rw[if_neg (by rw[hk];simp)];have e:(k+1+1+(lJ (l.map tkE)).length+1)=k+(wY f (lJ (l.map tkE))).length:=(by simp[wY];omega);rw[e,cB] at hg;split
 ·rw[hnostar (by assumption)];exact hg
 ·exact hg
theorem b4s{n:List UInt8}(h:gP.contains n=true):a6u n/\tO n=true:=by
 have:n=gX\/n=c1m\/n=c1n\/n=c1o:=(by simpa[gP] using h);refine⟨⟨a9j h,?_⟩,?_⟩
 ·rcases this with rfl|rfl|rfl|rfl<;>rfl
 ·unfold tO;rw[h];simp
theorem b9o{da:Nat}{a:Ex}(hA:Alone da a)(bA:vL (tkE a)){ts:List Tok}{k d:Nat}{m:List kG}(hd:d+1+da<=60)(hr:Rest ts k (wd rW::(tkE a++sg 41::m))):
  Ev fun f=>dW ts f (.rd 0 k d)= .good (k+1+(tkE a).length) (opE 16 [a]):=by
 have hr2:=hr.tail;have h1:=kL hA bA (n:=2) (d:=d+1) (by omega) hr2 ⟨by decide,by decide⟩ hd (fun j _ hj=>jL j hj);have h2:Ev fun f=>dW ts f (.rd 2 k d)= .good (k+1+(tkE a).length) (opE 16 [a]):=by
  apply Ev.step;refine h1.mono fun f hf=>?_;rw[a1b,take_one hr (by simp) (by decide)];simp only;rw[hf];unfold fB;rw[if_pos (by omega)];rfl
 exact lifts (by omega) h2 hr2.app (.inr (aH 2)) 2 0 rfl (fun j _ hj=>jL j (by omega))
theorem b9p{da:Nat}{a:Ex}(hA:Alone da a)(bA:vL (tkE a)){ts:List Tok}{k d:Nat}{m:List kG}(hd:d+1+da<=60)(hr:Rest ts k (sg 45::(tkE a++sg 41::m))):
  Ev fun f=>dW ts f (.rd 0 k d)= .good (k+1+(tkE a).length) (opE 15 [a]):=by
 have hr2:=hr.tail;have h1:=kL hA bA (n:=7) (d:=d+1) (by omega) hr2 ⟨by decide,by decide⟩ hd (fun j _ hj=>jL j hj);have h2:Ev fun f=>dW ts f (.rd 7 k d)= .good (k+1+(tkE a).length) (opE 15 [a]):=by
  apply Ev.step;refine h1.mono fun f hf=>?_;rw[a1a,take_one hr (by simp) (by decide)];simp only;rw[hf];unfold fB;rw[if_pos (by omega)];rfl
 exact lifts (by omega) h2 hr2.app (.inl (gZ hr (by decide) _)) 7 0 rfl (fun j _ hj=>jL j (by omega))
theorem b0k(j:Nat)(h4:4<=j)(h:j<7):xB j (wd sIs):=by
 rcases seven h with rfl|rfl|rfl|rfl|rfl|rfl|rfl<;>first |exact zR (by decide)|exact absurd h4 (by decide)
theorem b5l{da:Nat}{a:Ex}(hA:Alone da a)(bA:vL (tkE a)){o:Int}(ho:o=17\/o=18){ts:List Tok}{k d:Nat}{m:List kG}(hd:d+da<=60)(hr:Rest ts k (tkE a++(wR o++sg 41::m))):
  Ev fun f=>dW ts f (.rd 0 k d)= .good (k+(tkE a).length+(wR o).length) (opE o [a]):=by
 have hfirst:bH ts k [rW]=none:=by
  obtain⟨x,q,e,hx⟩:=bA;rw[e] at hr;exact gZ hr hx.1 _
 have hend:=hr.app.app;rcases ho with rfl|rfl
 ·have hr1:Rest ts k (tkE a++wd sIs::wd gN::sg 41::m):=by simpa[wR] using hr
  have h1:=kL hA bA (n:=4) (by omega) hr1 ⟨by decide,by decide⟩ hd (fun j h4 hj=>b0k j h4 hj);have hr2:=hr1.app;have hr3:=hr2.tail;have h2:Ev fun f=>dW ts f (.rd 3 k d)= .good (k+(tkE a).length+2) (opE 17 [a]):=by
   apply Ev.step;refine h1.mono fun f hf=>?_;rw[xD];unfold a4k;rw[hf];simp only[Res.bind];rw[wM hr2 _ (by decide)];simp only;rw[sK hr2 (by simp) (by decide),take_one hr3 (by simp) (by decide)]
  exact lifts (by omega) h2 hend (.inl hfirst) 3 0 rfl (fun j _ hj=>jL j (by omega))
 ·have hr1:Rest ts k (tkE a++wd sIs::wd rW::wd gN::sg 41::m):=by simpa[wR] using hr
  have h1:=kL hA bA (n:=4) (by omega) hr1 ⟨by decide,by decide⟩ hd (fun j h4 hj=>b0k j h4 hj);have hr2:=hr1.app;have hr3:=hr2.tail;have hr4:=hr3.tail;have h2:Ev fun f=>dW ts f (.rd 3 k d)= .good (k+(tkE a).length+3) (opE 18 [a]):=by
   apply Ev.step;refine h1.mono fun f hf=>?_;rw[xD];unfold a4k;rw[hf];simp only[Res.bind];rw[wM hr2 _ (by decide)];simp only;rw[sK hr2 (by simp) (by decide),gZ hr3 (by decide)];simp only;rw[sK hr2 (by simp) (by decide),sK hr3 (by simp) (by decide),take_one hr4 (by simp) (by decide)]
  exact lifts (by omega) h2 hend (.inl hfirst) 3 0 rfl (fun j _ hj=>jL j (by omega))
theorem b7r{v:Int×Int×List UInt8}(h:chk v.1 v.2.1 v.2.2=0){ts:List Tok}{run:Job->Res}{k d:Nat}{b:kG}{m:List kG}(hr:Rest ts k (oW v::b::m)):kV ts run k d= .good (k+1) (b3v v):=by
 obtain⟨x,hx,hb⟩:=hr.head;obtain⟨v1,v2,v3⟩:=v;simp only at h;unfold kV;rw[hx];simp only;by_cases h01:v1=0\/v1=1
 ·have hv:oW (v1,v2,v3)=(1,lit v1 v2 v3,(0,0,[])):=by unfold oW;rw[if_pos h01]
  have hk:x.k=1:=(by have:=congrArg Prod.fst hb;rw[hv] at this;exact this);rw[if_neg (by omega)];obtain⟨_,hc⟩:=vB h;rcases hc with⟨rfl,rfl,rfl⟩|⟨rfl,rfl,rfl⟩|⟨rfl,rfl,rfl⟩|⟨rfl,rfl⟩|⟨rfl,rfl⟩|⟨rfl,rfl⟩
  ·have:fZ ts k [(kE,0),(nW,1),(gN,2)]=some (k+1,2):=by
    unfold fZ;rw[gZ hr (by decide)];unfold fZ;rw[gZ hr (by decide)];unfold fZ;rw[take_one hr (by simp) (by decide)]
   rw[this];rfl
  ·have:fZ ts k [(kE,0),(nW,1),(gN,2)]=some (k+1,0):=by
    unfold fZ;rw[take_one hr (by simp) (by decide)]
   rw[this];rfl
  ·have:fZ ts k [(kE,0),(nW,1),(gN,2)]=some (k+1,1):=by
    unfold fZ;rw[gZ hr (by decide)];unfold fZ;rw[take_one hr (by simp) (by decide)]
   rw[this];rfl
  ·omega
  ·omega
  ·omega
 ·have hv:oW (v1,v2,v3)=(2,lit v1 v2 v3,(v1,v2,v3)):=by unfold oW;rw[if_neg h01]
  have hk:x.k=2:=(by have:=congrArg Prod.fst hb;rw[hv] at this;exact this);have hxv:x.v=(v1,v2,v3):=(by have:=congrArg (fun b:kG=>b.2.2) hb;rw[hv] at this;exact this);rw[if_pos hk,hr.next (by simp),hxv]
theorem b4c{v:Int×Int×List UInt8}(h:chk v.1 v.2.1 v.2.2=0):a9a (oW v):=by
 obtain⟨v1,v2,v3⟩:=v;by_cases h01:v1=0\/v1=1
 ·obtain⟨_,hc⟩:=vB h;rcases hc with⟨rfl,rfl,rfl⟩|⟨rfl,rfl,rfl⟩|⟨rfl,rfl,rfl⟩|⟨rfl,rfl⟩|⟨rfl,rfl⟩|⟨rfl,rfl⟩
  ·exact⟨by decide,by decide,by decide⟩
  ·exact⟨by decide,by decide,by decide⟩
  ·exact⟨by decide,by decide,by decide⟩
  ·omega
  ·omega
  ·omega
 ·have hv:oW (v1,v2,v3)=(2,lit v1 v2 v3,(v1,v2,v3)):=by unfold oW;rw[if_neg h01]
  rw[hv];exact⟨rfl,rfl,rfl⟩
end
section
theorem b0e{s:List UInt8}(h:mO s=true):a6u s:=⟨(rO h).1,(rO h).2⟩
theorem a6s:∀(n:Nat) (x:Ex),SizeOf.sizeOf x<=n->eH x=true->Alone (rY x) x/\vL (tkE x)
 |0,x,hm,_=>by cases x;simp at hm
 |n+1,x,hm,hc=>by
  obtain⟨hr,hca⟩:=a0u hc;have ih:∀y∈x.args,Alone (rY y) y/\vL (tkE y):=fun y hy=>a6s n y (by have:=b2r hy;omega) (hca y hy);obtain⟨k,v,t,nm,o,args⟩:=x;simp only[Ex.args] at ih;clear hca hc hm
  replace hr:dV k v t nm o args=true:=hr
  unfold dV at hr;simp only[tkE,a9i,rY,Alone];unfold b4p;by_cases h1:k=1
  ·rw[if_pos h1] at hr⊢;simp only[aQ,beq_iff_eq,iZ] at hr;obtain⟨⟨⟨⟨⟨rfl,rfl⟩,rfl⟩,rfl⟩,hv⟩,_⟩:=hr;subst h1;refine⟨fun ts q d b m hrest he hd=>Ev.of fun f=>?_,⟨_,[],rfl,b4c hv⟩⟩;rw[b7r hv hrest];rfl
  rw[if_neg h1] at hr⊢;by_cases h2:k=2
  ·rw[if_pos h2] at hr⊢;simp only[aQ,beq_iff_eq,iZ,jO] at hr;obtain⟨⟨⟨⟨rfl,rfl⟩,rfl⟩,hn⟩,ht⟩:=hr;subst h2;have hN:=b0e hn;by_cases h0:t=[]
   ·subst h0;rw[if_pos rfl];refine⟨fun ts q d b m hrest he hd=>Ev.of fun f=>?_,⟨_,[],rfl,rP hN⟩⟩;have h2:Rest ts q (wd nm::b::m):=hrest;rw[vC hN h2 (by simp),gZ h2.tail he.1];simp only;rw[gZ h2.tail he.2];rfl
   ·have hT:=b0e (ht.resolve_left h0);rw[if_neg h0];refine⟨fun ts q d b m hrest he hd=>Ev.of fun f=>?_,⟨_,_,rfl,rP hT⟩⟩;have h2:Rest ts q (wd t::sg 46::wd nm::b::m):=hrest;have h3:=h2.tail;have h4:=h3.tail;have hnk:mM ts (q+1+1)=some (nm,q+1+1+1):=by
     obtain⟨x,hx,hb⟩:=h4.head;have hk:x.k=1:=congrArg Prod.fst hb;have htx:x.t=nm:=congrArg (fun b:kG=>b.2.1) hb;unfold mM;rw[hx];simp only;rw[if_pos (by unfold fH;rw[hk,htx,hN.kw];rfl),htx,h4.next (by simp)]
    rw[vC hT h2 (by simp),gZ h3 (by decide)];simp only;rw[take_one h3 (by simp) (by decide)];simp only;rw[hnk];rfl
  rw[if_neg h2] at hr⊢;by_cases h3:k=3
  ·rw[if_pos h3] at hr;simp only[aQ,beq_iff_eq,decide_eq_true_eq] at hr;obtain⟨⟨⟨⟨rfl,rfl⟩,rfl⟩,ho⟩,hlen⟩:=hr;subst h3;rw[if_neg (by decide),if_neg (by decide)];by_cases hm2:fJ o=2
   ·rw[if_pos hm2];have ho2:1<=o/\o<=14:=(by unfold fJ at hm2;split at hm2;assumption;split at hm2<;>omega);obtain⟨a,c,rfl⟩:=b0g (hlen.trans hm2);obtain⟨hA,bA⟩:=ih a (by simp);obtain⟨hC,bC⟩:=ih c (by simp);refine⟨fun ts q d b m hrest he hd=>?_,⟨_,_,rfl,⟨by decide,by decide,by decide⟩⟩⟩;have hda:rY a<=nV [a,c]:=xR (by simp);have hdc:rY c<=nV [a,c]:=xR (by simp);simp only[lW,fM,if_false] at hd;have h2:Rest ts q (sg 40::(tkE a++a7z o::(tkE c++sg 41::b::m))):=(by simpa using hrest);have h3:=h2.tail;have hin:=b9n hA hC bA bC ho2 (d:=d+1) (by omega) (by omega) h3;have hlast:Rest ts (q+1+(tkE a).length+1+(tkE c).length) (sg 41::b::m):=h3.app.tail.app;have:=paren ⟨_,h2,by simp⟩ (by omega) hin hlast;refine this.mono fun f hf=>?_;rw[hf];simp[opE];omega
   ·rw[if_neg hm2];have ho2:15<=o/\o<=20:=by
     unfold fJ at hm2;split at hm2
     ·exact absurd rfl hm2
     ·omega
    have hm1:fJ o=1:=(by unfold fJ;rw[if_neg (by omega),if_pos (by omega)]);obtain⟨a,rfl⟩:=a3r (hlen.trans hm1);obtain⟨hA,bA⟩:=ih a (by simp);have hda:rY a<=nV [a]:=xR (by simp);by_cases h19:o=19\/o=20
    ·rw[if_pos h19];have hN:a6u (bI o)/\tO (bI o)=true/\qO (bI o) [a]=opE o [a]:=by
      rcases h19 with rfl|rfl
      ·exact⟨⟨⟨108,[101,110,103,116,104],rfl,by decide,by decide,by decide⟩,rfl⟩,by decide,rfl⟩
      ·exact⟨⟨⟨97,[98,115],rfl,by decide,by decide,by decide⟩,rfl⟩,by decide,rfl⟩
     refine⟨fun ts q d b m hrest he hd=>?_,⟨_,_,rfl,rP hN.1⟩⟩;simp only[lW,fM,if_false] at hd;have:=a4b hN.1 hN.2.1 (d:=d) (dp:=rY a) (l:=[a]) (by simp) (fun y hy=>by simp at hy;subst hy;exact⟨hA,bA⟩) (.inr rfl) (by omega) hrest;refine this.mono fun f hf=>?_;rw[hf,hN.2.2];rfl
    ·rw[if_neg h19];by_cases h17:o=17\/o=18
     ·rw[if_pos h17];refine⟨fun ts q d b m hrest he hd=>?_,⟨_,_,rfl,⟨by decide,by decide,by decide⟩⟩⟩;simp only[lW,fM,if_false] at hd;have h2:Rest ts q (sg 40::(tkE a++(wR o++sg 41::b::m))):=(by simpa using hrest);have h3:=h2.tail;have hin:=b5l hA bA h17 (d:=d+1) (by omega) h3;have:=paren ⟨_,h2,by cases tkE a<;>simp[wR]<;>split<;>simp⟩ (by omega) hin h3.app.app;refine this.mono fun f hf=>?_;rw[hf];simp[opE];omega
     ·rw[if_neg h17];have h15:o=15\/o=16:=(by omega);refine⟨fun ts q d b m hrest he hd=>?_,⟨_,_,rfl,⟨by decide,by decide,by decide⟩⟩⟩;rw[if_pos (by omega:o=16\/o=15)] at hd;simp only[lW,fM,if_false] at hd;rcases h15 with rfl|rfl
      ·have h2:Rest ts q (sg 40::sg 45::(tkE a++sg 41::b::m)):=by simpa[b5u] using hrest
       have h3:=h2.tail;have hin:=b9p hA bA (d:=d+1) (by omega) h3;have:=paren ⟨_,h2,by simp⟩ (by omega) hin h3.tail.app;refine this.mono fun f hf=>?_;rw[hf];simp[opE];omega
      ·have h2:Rest ts q (sg 40::wd rW::(tkE a++sg 41::b::m)):=by simpa[b5u] using hrest
       have h3:=h2.tail;have hin:=b9o hA bA (d:=d+1) (by omega) h3;have:=paren ⟨_,h2,by simp⟩ (by omega) hin h3.tail.app;refine this.mono fun f hf=>?_;rw[hf];simp[opE];omega
  rw[if_neg h3] at hr;by_cases h4:k=4
  ·rw[if_pos h4] at hr⊢;simp only[aQ,beq_iff_eq,nT,List.isEmpty_eq_false_iff] at hr;obtain⟨⟨⟨⟨rfl,rfl⟩,rfl⟩,rfl⟩,hne⟩:=hr;subst h4;have hN:a6u bZ:=⟨⟨99,[111,97,108,101,115,99,101],rfl,by decide,by decide,by decide⟩,rfl⟩
   have hcall:qO bZ args= .mk 4 (0,0,[]) [] [] 0 args:=by
    unfold qO;rw[if_neg (by decide),if_neg (by decide),if_pos rfl]
   refine⟨fun ts q d b m hrest he hd=>?_,⟨_,_,rfl,rP hN⟩⟩;have hd':d+1+nV args<=60:=by
    rw[if_neg (by simpa using hne)] at hd;omega
   have:=a4b hN (by decide) (d:=d) (dp:=nV args) hne (fun y hy=>⟨(ih y hy).1.mono (xR hy),(ih y hy).2⟩) (.inl rfl) hd' hrest;refine this.mono fun f hf=>?_;rw[hf,hcall]
  rw[if_neg h4] at hr⊢;by_cases h5:k=5
  ·rw[if_pos h5] at hr⊢;simp only[aQ,beq_iff_eq,jO,iZ] at hr;obtain⟨⟨⟨⟨rfl,rfl⟩,rfl⟩,hs⟩,hl⟩:=hr;subst h5;obtain⟨hN,hK⟩:=b4s hs;have hcall:∀l,qO nm l= .mk 5 (0,0,[]) [] nm 0 l:=by
    have:nm=gX\/nm=c1m\/nm=c1n\/nm=c1o:=(by simpa[gP] using hs);intro l;unfold qO;rcases this with rfl|rfl|rfl|rfl<;>rw[if_neg (by decide),if_neg (by decide),if_neg (by decide)]
   refine⟨fun ts q d b m hrest he hd=>?_,⟨_,_,rfl,rP hN⟩⟩;rcases hl with hl|⟨rfl,rfl⟩
   ·obtain⟨a,rfl⟩:=a3r hl;obtain⟨hA,bA⟩:=ih a (by simp);have hda:rY a<=nV [a]:=xR (by simp);simp only[lW,fM,if_false] at hd;have:=a4b hN hK (d:=d) (dp:=rY a) (l:=[a]) (by simp) (fun y hy=>by simp at hy;subst hy;exact⟨hA,bA⟩) (.inr rfl) (by omega) (by simpa[lJ] using hrest);refine this.mono fun f hf=>?_;rw[hf,hcall];rfl
   ·have h2:Rest ts q (wd gX::sg 40::sg 42::sg 41::b::m):=hrest;have h3:=h2.tail;have h4:=h3.tail;have h5:=h4.tail;refine Ev.of fun f=>?_;rw[vC hN h2 (by simp),take_one h3 (by simp) (by decide)];simp only;unfold iW;rw[if_neg (by decide),if_pos rfl,sK h4 (by simp) (by decide),take_one h5 (by simp) (by decide)];simp only;rw[hcall];rfl
  ·rw[if_neg h5] at hr;cases hr
end
section
end
section
theorem bind_mono{r r':Res}{g g':Nat->Ex->Res}(h1:r≠ .o->r'=r)(h2:∀k x,g k x≠ .o->g' k x=g k x)(hn:r.bind g≠ .o):r'.bind g'=r.bind g:=by
 cases r with
 |o=>exact absurd rfl hn
 |bad e=>rw[h1 (by simp)];rfl
 |good k x=>rw[h1 (by simp)];exact h2 k x hn
theorem sS{r r':Res}{d:Nat}(h:r≠ .o->r'=r)(hn:fB d r≠ .o):fB d r'=fB d r:=by
 unfold fB at hn⊢;split
 ·rename_i hd;rw[if_pos hd] at hn;exact h hn
 ·rfl
theorem b4t{ts:List Tok}{run run':Job->Res}(h:∀j,run j≠ .o->run' j=run j)(j:Job)(hn:nI ts run j≠ .o):nI ts run' j=nI ts run j:=by
 have hcalled:∀nm k d,iW ts run nm k d≠ .o->iW ts run' nm k d=iW ts run nm k d:=by
  intro nm k d hn;unfold iW at hn⊢;split
  ·rfl
  ·rename_i h1;rw[if_neg h1] at hn;split
   ·rename_i h2;rw[if_pos h2] at hn;cases ht:bH ts k [[42],[41]] with
    |some k'=>rfl
    |none=>
     rw[ht] at hn;exact h _ hn
   ·rename_i h2;rw[if_neg h2] at hn;exact h _ hn
 cases j with
 |lp n k d x=>
  rw[wG] at hn⊢;rw[wG];cases ht:fI ts k (dZ n) with
  |none=>rfl
  |some p=>
   rw[ht] at hn;exact bind_mono (h _) (fun _ _=>h _) hn
 |args nm k d acc=>
  rw[sF] at hn⊢;rw[sF];refine bind_mono (sS (h _)) (fun k1 x hn2=>?_) hn;cases ht:(if nm=bZ then bH ts k1 [[44]] else none) with
  |none=>rfl
  |some k2=>
   rw[ht] at hn2;exact h _ hn2
 |rd n k d=>
  by_cases h2:n=2
  ·subst h2;rw[a1b] at hn⊢;rw[a1b];cases ht:bH ts k [rW] with
   |none=>
    rw[ht] at hn;exact h _ hn
   |some k'=>
    rw[ht] at hn;exact bind_mono (sS (h _)) (fun _ _ _=>rfl) hn
  by_cases h7:n=7
  ·subst h7;rw[a1a] at hn⊢;rw[a1a];cases ht:bH ts k [[45]] with
   |some k'=>
    rw[ht] at hn;exact bind_mono (sS (h _)) (fun _ _ _=>rfl) hn
   |none=>
    rw[ht] at hn;simp only at hn⊢;unfold kV at hn⊢;cases hx:ts[k]? with
    |none=>rfl
    |some x=>
     rw[hx] at hn;simp only at hn⊢;split
     ·rfl
     ·rename_i hk;rw[if_neg hk] at hn;cases hc:fZ ts k [(kE,0),(nW,1),(gN,2)] with
      |some p=>rfl
      |none=>
       rw[hc] at hn;simp only at hn⊢;cases hp:bH ts k [[40]] with
       |some k'=>
        rw[hp] at hn;exact bind_mono (sS (h _)) (fun _ _ _=>rfl) hn
       |none=>
        rw[hp] at hn;simp only at hn⊢;cases hm:mM ts k with
        |none=>rfl
        |some p=>
         rw[hm] at hn;obtain⟨nm,k1⟩:=p;simp only at hn⊢;cases hq:bH ts k1 [[40]] with
         |some k2=>
          rw[hq] at hn;exact hcalled _ _ _ hn
         |none=>rfl
  by_cases h3:n=3
  ·subst h3;rw[xD] at hn⊢;rw[xD];unfold a4k at hn⊢;refine bind_mono (h _) (fun k1 x hn2=>?_) hn;cases ht:fI ts k1 (dZ 3) with
   |none=>rfl
   |some p=>
    rw[ht] at hn2;exact bind_mono (h _) (fun _ _ _=>rfl) hn2
  ·rw[uP _ _ _ _ h2 h7 h3] at hn⊢;rw[uP _ _ _ _ h2 h7 h3];exact bind_mono (h _) (fun _ _=>h _) hn
theorem a9n(ts:List Tok):∀(f:Nat) (j:Job),dW ts f j≠ .o->dW ts (f+1) j=dW ts f j
 |0,_j,h=>absurd rfl h
 |f+1,j,h=>b4t (a9n ts f) j h
theorem a9o{ts:List Tok}{f:Nat}{j:Job}(h:dW ts f j≠ .o):∀(g:Nat),dW ts (f+g) j=dW ts f j
 |0=>rfl
 |g+1=>by
  have ih:=a9o h g;show dW ts (f+g+1) j=_;rw[a9n ts (f+g) j (by rw[ih];exact h),ih]
theorem c5x{ts:List Tok}{f:Nat}{j:Job}{r:Res}(h:Ev fun g=>dW ts g j=r)(hf:dW ts f j≠ .o):dW ts f j=r:=by
 obtain⟨f0,h⟩:=h;rw[<-a9o hf f0];exact h (f+f0) (by omega)
end
section
def wReturning:List UInt8:=[114,101,116,117,114,110,105,110,103]
end
section
theorem none_eq{x:Ex}(h:d3i x=true):x=zeroE:=same_eq x zeroE h
def looseQ(q:Qu):Bool:=
 (decide (0<q.items.length)&&q.items.all d3r)&&d4c q.frm&&(d3i q.wher||eH q.wher)&&(d3i q.having||eH q.having&&decide (0<q.group.length))&&decide (-1<=q.limit)&&
 (q.joins.all fun j=>d4c j.s&&eH j.on)&&q.group.all eH&&q.orders.all fun o=>eH o.x
theorem right_loose{q:Qu}(h:d3e q=true):looseQ q=true/\d7t q=false:=by
 unfold d3e d4l at h;unfold looseQ d7t;simp only[aQ,jO,decide_eq_true_eq,Bool.or_eq_false_iff,decide_eq_false_iff_not] at h⊢;obtain⟨⟨⟨⟨⟨⟨⟨⟨⟨hi0,hi32⟩,hi⟩,hs⟩,hw⟩,hh⟩,hlim⟩,⟨hj4,hj⟩⟩,⟨hg8,hg⟩⟩,⟨ho8,ho⟩⟩:=h;exact⟨⟨⟨⟨⟨⟨⟨⟨⟨hi0,hi⟩,hs⟩,hw⟩,hh⟩,hlim⟩,hj⟩,hg⟩,ho⟩,⟨⟨by omega,by omega⟩,by omega⟩,by omega⟩
end
section
theorem d2t.slices{p:Nat->Prop}{W:World}{q:Qu}{si sj sw sg sh so:Value}(h:d2t p W q si sj sw sg sh so):∃ai ci aj cj aw cw ag cg ah ch ao co,si= .slice ai q.items.length ci/\sj= .slice aj q.joins.length cj/\sw= .slice aw q.wher.args.length cw/\sg= .slice ag q.group.length cg/\sh= .slice ah q.having.args.length ch/\so= .slice ao q.orders.length co:=by
 obtain⟨ai,ci,e1,-⟩:=h.items.shape;obtain⟨aj,cj,e2,-⟩:=h.joins.shape;obtain⟨aw,cw,e3⟩:=h.wher.shape;obtain⟨ag,cg,e4⟩:=h.group.shape;obtain⟨ah,ch,e5⟩:=h.having.shape;obtain⟨ao,co,e6,-⟩:=h.orders.shape;exact⟨ai,ci,aj,cj,aw,cw,ag,cg,ah,ch,ao,co,e1,e2,e3,e4,e5,e6⟩
end
section
abbrev zQL:List Value:=[.bool false,.slice none 0 0,S [],S [],.slice none 0 0,.int .i64 0,.int .i64 0,.int .i64 0,S [],S [],S [],.int .i64 0,.slice none 0 0,.slice none 0 0,.int .i64 0,.int .i64 0,.int .i64 0,S [],S [],S [],.int .i64 0,.slice none 0 0,.slice none 0 0,.int .i64 0]
structure YQ(W A:World)(g n cap k:Nat)(q:Qu)(si sj sw sg sh so:Value):Prop where
 f:Fx W A (sC g n cap k) zSt 37 zQL
 m:A.heap[W.heap.size+3]?=some (.cells (quC q si sj sw sg sh so).toArray 37 (0,0))
 p:d2t (fun b=>W.heap.size+4<=b) A q si sj sw sg sh so
section
variable {W A B:World} {g n cap k k':Nat} {q q':Qu} {si sj sw sg sh so si' sj' sw' sg' sh' so':Value}
theorem YQ.size(h:YQ W A g n cap k q si sj sw sg sh so):W.heap.size+3<A.heap.size:=lt_of_heap h.m
theorem YQ.call(h:YQ W A g n cap k q si sj sw sg sh so)(hb:Bl A B):YQ W B g n cap k q si sj sw sg sh so:=⟨h.f.call hb,(hb.block _ h.size).trans h.m,h.p.bl hb⟩
theorem Fx.own{W A B:World}{cs rs xs:List Value}{T:TypeId}{r:Option Nat}(h:Fx W A cs rs T xs)(hg:A.grownBy B r)(hr:∀j,r=some j->W.heap.size+3<=j):Fx W B cs rs T xs:=
 ⟨h.toFs.own hg (fun j e=>by have:=hr j e;omega),(hg.block _ h.size (fun e=>by have:=hr _ e.symm;omega)).trans h.x⟩
structure YJ(W A:World)(g n cap N k:Nat)(d:Bool)(items:List It)(frm:So)(si v:Value)(acc:List (Jo×Value)):Prop where
 f:Fx W A (sC g n cap k) zSt 37 zQL
 m:A.heap[W.heap.size+3]?=some (.cells (quC ⟨d,items,frm,[],zeroE,[],zeroE,[],-1⟩ si v d2i d2i d2i d2i).toArray 37 (0,0))
 i:d2p fIt (fun b=>W.heap.size+4<=b/\b<N) A si items
 o:A.ownsRow N 83 10 v acc.length (d4w fJo acc)
 r:∀q∈acc,bG (fun b=>N<=b/\some b≠v.ownBlock) A q.2 (Form.ex fJo q.1).args
 z:N<=A.heap.size
 y:W.heap.size+4<=N
variable {N:Nat} {d:Bool} {items:List It} {frm:So} {v:Value} {acc:List (Jo×Value)} {b:Nat}
theorem YJ.size(h:YJ W A g n cap N k d items frm si v acc):W.heap.size+3<A.heap.size:=lt_of_heap h.m
theorem YJ.call(h:YJ W A g n cap N k d items frm si v acc)(hb:Bl A B):YJ W B g n cap N k d items frm si v acc:=
 ⟨h.f.call hb,(hb.block _ h.size).trans h.m,h.i.bl hb,gY hb h.o,fun q hq=>(h.r q hq).bl hb,jH h.z hb.size,h.y⟩
theorem YJ.round(h:YJ W A g n cap N k d items frm si v acc)(hB:But b A B)(hb:N<=b)(hv:some b≠v.ownBlock)(hr:∀q∈acc,bG (fun i=>N<=i/\some i≠v.ownBlock) B q.2 (Form.ex fJo q.1).args):YJ W B g n cap N k d items frm si v acc:=
 have hy:=h.y
 ⟨h.f.other hB (by omega),(hB.same _ (by omega)).trans h.m,h.i.but hB (fun i hi=>by omega),d8t h.o hB hv,hr,by rw[hB.size];exact h.z,h.y⟩
end
end
section
structure YH(P:Nat->Prop)(W A:World)(g n cap k:Nat)(q:Qu)(si sj sw sg sh so:Value):Prop where
 bl:Bl W A
 s:A.heap[W.heap.size]?=some (.cells (sC g n cap k).toArray 60 (0,0))
 m:A.heap[W.heap.size+1]?=some (.cells (quC q si sj sw sg sh so).toArray 37 (0,0))
 r:A.heap[W.heap.size+2]?=some (.cells zSt.toArray 60 (0,0))
 x:A.heap[W.heap.size+3]?=some (.cells zQL.toArray 37 (0,0))
 p:d2t (fun b=>(P b/\b<W.heap.size)\/W.heap.size+4<=b) A q si sj sw sg sh so
section
variable {P:Nat->Prop} {W A B:World} {g n cap k k':Nat} {q q':Qu} {si sj sw sg sh so si' sj' sw' sg' sh' so':Value} {b:Nat}
theorem YH.size(h:YH P W A g n cap k q si sj sw sg sh so):W.heap.size+3<A.heap.size:=lt_of_heap h.x
theorem YH.call(h:YH P W A g n cap k q si sj sw sg sh so)(hb:Bl A B):YH P W B g n cap k q si sj sw sg sh so:=
 ⟨h.bl.call hb,(hb.block _ (lt_of_heap h.s)).trans h.s,(hb.block _ (lt_of_heap h.m)).trans h.m,(hb.block _ (lt_of_heap h.r)).trans h.r,(hb.block _ h.size).trans h.x,h.p.bl hb⟩
theorem YH.other(h:YH P W A g n cap k q si sj sw sg sh so)(hB:But b A B)(hb:W.heap.size+4<=b)(hp:d2t (fun b=>(P b/\b<W.heap.size)\/W.heap.size+4<=b) B q si sj sw sg sh so):YH P W B g n cap k q si sj sw sg sh so:=
 ⟨h.bl.but hB (by omega),(hB.same _ (by omega)).trans h.s,(hB.same _ (by omega)).trans h.m,(hB.same _ (by omega)).trans h.r,(hB.same _ (by omega)).trans h.x,hp⟩
theorem YH.results(hx:A.heap[W.heap.size+3]?=some (.cells (quC q si sj sw sg sh so).toArray 37 (0,0)))(hr':A.heap[W.heap.size+2]?=some (.cells (sC g n cap k).toArray 60 (0,0))){fn:Func}{p t:Tmp}{r:Tmp}{tmps:Array Value}(hr:fn.results= #[.cell p 60,.cell t 37,.tmp r])
  (hp:tmps.getD p undef= .pointer (some ⟨W.heap.size+2,0,none⟩)) (hq:tmps.getD t undef= .pointer (some ⟨W.heap.size+3,0,none⟩)):(results fn tmps).run Tryz.prog A= .ok (.tuple #[RS g n cap k,QV q si sj sw sg sh so,tmps.getD r undef]) A:=by
 have hp':tmps[p]?.getD undef= .pointer (some ⟨W.heap.size+2,0,none⟩):=(by simpa using hp);have hq':tmps[t]?.getD undef= .pointer (some ⟨W.heap.size+3,0,none⟩):=(by simpa using hq);have h1:=run_loadVar_row (P:=Tryz.prog) A _ 60 60 _ (0,0) _ hr' Tryz.underlying60 rfl d2j;have h2:=run_loadVar_row (P:=Tryz.prog) A _ 37 37 _ (0,0) _ hx Tryz.underlying37 rfl tC;simp[Go.results,hr,hp',hq',asAddr,h1,h2];rfl
end
theorem At8.lt'{W:World}{b o:Nat}{x:Ex}{sv:Value}(h:At8 W b o x sv):b<W.heap.size:=by have:=bB _ _ h.1;simpa using this
structure YG(W A:World)(g n cap N k:Nat)(q:Qu)(si sj sw v lv:Value)(l:List Od)(acc:List (Ex×Value)):Prop where
 bl:Bl W A
 s:A.heap[W.heap.size]?=some (.cells (sC g n cap k).toArray 60 (0,0))
 m:A.heap[W.heap.size+1]?=some (.cells (quC q si sj sw v d2i d2i).toArray 37 (0,0))
 r:A.heap[W.heap.size+2]?=some (.cells zSt.toArray 60 (0,0))
 x:A.heap[W.heap.size+3]?=some (.cells zQL.toArray 37 (0,0))
 lr:d2p fOd (fun b=>W.heap.size+4<=b/\b<N) A lv l
 o:A.ownsRow N 34 8 v acc.length (d4w fEx acc)
 e:∀y∈acc,bG (fun b=>W.heap.size+4<=b/\b<N) A y.2 y.1.args
 z:N<=A.heap.size
 y:W.heap.size+4<=N
section
variable {P:Nat->Prop} {W A B A1 A2:World} {g n cap N k:Nat} {q:Qu} {si sj sw v v' lv:Value} {l:List Od} {acc:List (Ex×Value)}
theorem YG.size(h:YG W A g n cap N k q si sj sw v lv l acc):W.heap.size+3<A.heap.size:=lt_of_heap h.x
theorem YG.round(h:YG W A g n cap N k q si sj sw v lv l acc)(hb:Bl A A1){y:Ex}{s:Value}(hr:bG (fun b=>W.heap.size+4<=b/\b<N) A s y.args)(ho:A2.ownsRow N 34 8 v' (acc.length+1) (d4w fEx (acc++[(y,s)])))(hg:A1.grownBy A2 v.ownBlock)(hB:But (W.heap.size+1) A2 B)
  (hx:B.heap[W.heap.size+1]?=some (.cells (quC q si sj sw v' d2i d2i).toArray 37 (0,0))):YG W B g n cap N k q si sj sw v' lv l (acc++[(y,s)]):=by
 have hlow:=h.o.lt;have hy:=h.y;have hs:=h.size;have hz:=h.z;have hbs:=hb.size;have hne:∀i,i<N->some i≠v.ownBlock:=fun i hi e=>(by have:=(hlow i e.symm).1;omega);have hk:∀i,i<N->i≠W.heap.size+1->B.heap[i]?=A.heap[i]?:=fun i hi h1=>(hB.same i h1).trans ((hg.block i (by omega) (hne i hi)).trans (hb.block i (by omega)));have hbA2:Bl W A2:=iL (h.bl.call hb) hg (h.bl.call hb).size (fun j e=>by have:=(hlow j e).1;omega);refine⟨hbA2.but hB (by omega),(hk _ (by omega) (by omega)).trans h.s,hx,(hk _ (by omega) (by omega)).trans h.r,(hk _ (by omega) (by omega)).trans h.x,?_,?_,?_,?_,hy⟩
 ·exact h.lr.keep (by rw[hB.size];exact jH hbs hg.4) (fun _ h=>h) fun b hp _=>hk b hp.2 (by omega)
 ·rw[bD];exact d3q ho hB (by omega)
 ·intro u hu;rcases iX.1 hu with hu|hu
  ·exact(h.e u hu).keep (fun _ h=>h) fun b hp _=>hk b hp.2 (by omega)
  ·obtain rfl:=gQ.1 hu;exact hr.keep (fun _ h=>h) fun b hp _=>hk b hp.2 (by omega)
 ·rw[hB.size];have:=hg.4;omega
end
end
section
theorem e4p:(d2r e4q).1=261:=by simpa using e4o
theorem e4m:(d2r e4n).1=261:=by simpa using e4l
theorem d2z.open{s:List UInt8}{W:World}{e:Ending}{w':World}(h:d2z s W e w'):∃ai ni ci aj nj cj aw nw cw ag ng cg ah nh ch ao no co,e= .returned (.tuple #[QV (d2r s).2 (.slice ai ni ci) (.slice aj nj cj) (.slice aw nw cw) (.slice ag ng cg) (.slice ah nh ch) (.slice ao no co),.int .i64 (d2r s).1])/\Bl W w'/\
  d5o w' (d2r s).2 (QV (d2r s).2 (.slice ai ni ci) (.slice aj nj cj) (.slice aw nw cw) (.slice ag ng cg) (.slice ah nh ch) (.slice ao no co)):=by
 obtain⟨v,hv,rfl,hb⟩:=h;obtain⟨si,sj,sw,sg,sh,so,rfl,hp⟩:=id hv;obtain⟨ai,ci,aj,cj,aw,cw,ag,cg,ah,ch,ao,co,rfl,rfl,rfl,rfl,rfl,rfl⟩:=hp.slices;exact⟨_,_,_,_,_,_,_,_,_,_,_,_,_,_,_,_,_,_,rfl,hb,hv⟩
theorem d7k(n:Int)(w:World):Calls Tryz.prog 12 #[.int .i64 n] w fun e w'=>e= .returned (.int .i64 n)/\w=w':=by
 go_enter Tryz.func12,Tryz.ntmps12;go_wp2;go_ret;exact⟨rfl,rfl⟩
theorem e0x{s t:List UInt8}(hs:s.length<=9223372036854775807)(hk:OkQ s t)(W:World)(hG:nD W):Calls Tryz.prog 36 #[S s,S t] W fun e w'=>e= .returned (.bool true)/\Bl W w':=by
 have HX:Hid (∀W' v,Bl W W'->d5o W' (d2r s).2 v->Calls Tryz.prog 14 #[v] W' fun e w'=>e= .returned (.tuple #[S t,.int .i64 0])/\Bl W' w'):=fun W' v hb hv=>by
  have h:=e3l hk.ok hk.chk W' v hv (hG.bl hb);rw[hk.txt] at h;exact h
 have HP:Hid (Calls Tryz.prog 9 #[S s] W (d2z s W)):=d5l s hs W hG;have HN:=aB hk.no;clear hk hG;go_enter Tryz.func36,Tryz.ntmps36;go_wp2_with fail;refine HP.o.mono ?_;intro e w1 hp;obtain⟨ai,ni,ci,aj,nj,cj,aw,nw,cw,ag,ng,cg,ah,nh,ch,ao,no,co,rfl,hb1,hv⟩:=hp.open;rw[HN.o];have HV:=aB hv;have HB1:=aB hb1;clear HN HP hp hv hb1;generalize (d2r s).2=q at *;have HY2:=aB (aN w1 (.cells zQL.toArray 37));have HA2:=aB ((Bl.refl w1).alloc (.cells zQL.toArray 37));go_wp2_with (refine bA rfl rfl rfl rfl (quC q (.slice ai ni ci) (.slice aj nj cj) (.slice aw nw cw) (.slice ag ng cg) (.slice ah nh ch) (.slice ao no co)) HY2.o rfl rfl tC rfl ?_)
 intro w2 hB2 hX2;have HX2:=aB hX2;have HB2:=aB ((HB1.o).call (HA2.o.but hB2 (aH _)));have HC2:=aB (HA2.o.but hB2 (aH _));clear hB2 hX2 HY2 HA2;go_wp2_with (refine wpList_load_row rfl 37 (.tmp 5) rfl w1.heap.size rfl 37 _ (0,0) _ HX2.o Tryz.underlying37 rfl tC ?_)
 go_wp2_with fail;refine(HX.o _ _ HB2.o (HV.o.bl HC2.o)).mono ?_;rintro e w3 ⟨rfl,hb3⟩;have HB3:=aB (HB2.o.call hb3);clear hb3 HX2;go_wp2_with (first
  |(go_at_call 12;(with_reducible refine(d7k _ _).mono ?_);rintro e w' ⟨rfl,rfl⟩))
 go_ret;exact⟨rfl,HB3.o⟩
theorem d7c(W:World)(hG:nD W):Calls Tryz.prog 8 #[] W fun e w'=>e= .returned (.bool true)/\Bl W w':=by
 have HG:=aB hG;clear hG;go_enter Tryz.func8,Tryz.ntmps8;go_wp2_with fail;refine(d5l e4q (by decide) _ HG.o).mono ?_;intro e w1 hp;obtain⟨ai,ni,ci,aj,nj,cj,aw,nw,cw,ag,ng,cg,ah,nh,ch,ao,no,co,rfl,hb1,-⟩:=hp.open;rw[e4p];have HB1:=aB hb1;clear hp hb1;generalize (d2r e4q).2=q at *;have HY2:=aB (aN w1 (.cells zQL.toArray 37));have HA2:=aB ((Bl.refl w1).alloc (.cells zQL.toArray 37));go_wp2_with (refine bA rfl rfl rfl rfl (quC q (.slice ai ni ci) (.slice aj nj cj) (.slice aw nw cw) (.slice ag ng cg) (.slice ah nh ch) (.slice ao no co)) HY2.o rfl rfl tC rfl ?_)
 intro w2 hB2 hX2;have HX2:=aB hX2;have HB2:=aB ((HB1.o).call (HA2.o.but hB2 (aH _)));have HC2:=aB (HA2.o.but hB2 (aH _));clear hB2 hX2 HY2 HA2;clear HX2 HC2 HB1;go_wp2_with fail;refine(d5l e4n (by decide) _ (HG.o.bl HB2.o)).mono ?_;intro e w3 hp;obtain⟨ai,ni,ci,aj,nj,cj,aw,nw,cw,ag,ng,cg,ah,nh,ch,ao,no,co,rfl,hb3,-⟩:=hp.open;rw[e4m];have HB3:=aB (HB2.o.call hb3);clear hp hb3;generalize (d2r e4n).2=q at *;have HY4:=aB (aN w3 (.cells zQL.toArray 37));have HA4:=aB ((Bl.refl w3).alloc (.cells zQL.toArray 37));go_wp2_with (refine bA rfl rfl rfl rfl (quC q (.slice ai ni ci) (.slice aj nj cj) (.slice aw nw cw) (.slice ag ng cg) (.slice ah nh ch) (.slice ao no co)) HY4.o rfl rfl tC rfl ?_)
 intro w4 hB4 hX4;have HX4:=aB hX4;have HB4:=aB ((HB3.o).call (HA4.o.but hB4 (aH _)));have HC4:=aB (HA4.o.but hB4 (aH _));clear hB4 hX4 HY4 HA4;clear HX4 HC4 HB3;go_wp2_with fail;refine(e0x (s:=e6r) (t:=e6p) (by decide) (okQ e4s) _ (HG.o.bl HB4.o)).mono ?_;rintro e w5 ⟨rfl,hb5⟩;have HB5:=aB (HB4.o.call hb5);go_wp2_with fail;refine(e0x (s:=e6q) (t:=e6o) (by decide) (okQ e4r) _ (HG.o.bl HB5.o)).mono ?_;rintro e w6 ⟨rfl,hb6⟩;have HB6:=aB (HB5.o.call hb6);clear hb5 hb6;go_wp2_with (first
  |(go_at_call 12;(with_reducible refine(d7k _ _).mono ?_);rintro e w' ⟨rfl,rfl⟩))
 go_ret;exact⟨rfl,HB6.o⟩
end
section
def namedTk(l:List kG)(al:List UInt8):List kG:=if al=[] then l else l++[wd wAs,wd al]
def tkSo(s:So):List kG:=namedTk [wd s.t] s.al
def tkIt(i:It):List kG:=if i.star then(if i.t=[] then[sg 42] else[wd i.t,sg 46,sg 42]) else namedTk (tkE i.x) i.al
def tkJo(j:Jo):List kG:=wd d5v::(tkSo j.s++wd wOn::tkE j.on)
def tkOd(o:Od):List kG:=tkE o.x++(if o.down then[wd d4e] else[])
def tkQ(q:Qu):List kG:=
 wd d3h::((if q.distinct then[wd d2s] else[])++(lJ (q.items.map tkIt)++wd d5p::(tkSo q.frm++(q.joins.flatMap tkJo++
 ((if d3i q.wher then[] else wd d6o::tkE q.wher)++((if q.group=[] then[] else wd d4q::wd wBy::lJ (q.group.map tkE))++
 ((if d3i q.having then[] else wd d3v::tkE q.having)++((if q.orders=[] then[] else wd d5n::wd wBy::lJ (q.orders.map tkOd))++
 (if 0<=q.limit then[wd d6p,oW (2,q.limit,[])] else[])))))))))
theorem Lx.app{s t:List UInt8}{a b:List kG}(h:Lx s a)(k:Lx t b)(ht:∀r,yL r->yL (t++r)):Lx (s++t) (a++b):=fun r hr=>by
 rw[iK,h _ (ht r hr),k r hr,d1b]
theorem Lx.nil:Lx [] []:=fun r _=>by simp
theorem Lx.blank{s:List UInt8}{a:List kG}(h:Lx s a):Lx (32::s) a:=fun r hr=>by
 show bt (32::(s++r))=_;rw[nZ,h r hr]
theorem Lx.word{s:List UInt8}(h:Wd s):Lx s [wd s]:=fun r hr=>by rw[mZ h hr,c7u];rfl
theorem end_blank(s r:List UInt8):yL (32::s++r):=yL.of _ (by decide) (by decide)
theorem Lx.then{s t:List UInt8}{a b:List kG}(h:Lx s a)(k:Lx t b):Lx (s++32::t) (a++b):=h.app k.blank fun r _=>end_blank t r
theorem word_as:Wd wAs:=⟨97,[115],rfl,by decide,by decide,by decide⟩
theorem named_lx{s al:List UInt8}{a:List kG}(h:Lx s a)(has:d3c al=true):Lx (d4t s al) (namedTk a al):=by
 unfold d4t namedTk;split
 ·exact h
 ·rename_i h0;have hn:mO al=true:=by
   unfold d3c at has;simp only[jO,beq_iff_eq] at has;exact has.resolve_left h0
  have:=(h.then (Lx.word word_as)).then (Lx.word (rO hn).1)
  simpa[iK] using this
theorem so_lx{s:So}(h:d4c s=true):Lx (d4g s) (tkSo s):=by
 unfold d4c at h;simp only[aQ] at h;exact named_lx (Lx.word (rO h.1).1) h.2
theorem it_lx{i:It}(h:d3r i=true)(hf:Fits i.x):Lx (d5x i) (tkIt i):=by
 unfold d3r at h;unfold d5x tkIt;split
 ·rename_i hs;rw[if_pos hs] at h;simp only[aQ,beq_iff_eq] at h;split
  ·intro r _;show bt (42::r)=_;rw[qF 42 (by simp),c7u];rfl
  ·rename_i h0;have hn:mO i.t=true:=by
    have:=h.2;unfold d3c at this;simp only[jO,beq_iff_eq] at this;exact this.resolve_left h0
   intro r _;have e:i.t++[46,42]++r=i.t++(46::42::r):=(by simp);rw[e,mZ (rO hn).1 (yL.of _ (by decide) (by decide)),qF 46 (by simp),qF 42 (by simp)];generalize bt r=z;cases z<;>simp[sg,wd]
 ·rename_i hs;rw[if_neg hs] at h;simp only[aQ,beq_iff_eq] at h;exact named_lx (b4o _ i.x (aH _) h.1.2 hf) h.2
theorem join_lx{α:Type}(tx:α->List UInt8)(tk:α->List kG):∀(l:List α),(∀y∈l,Lx (tx y) (tk y))->l≠[]->Lx (jR [44,32] (l.map tx)) (lJ (l.map tk))
 |[],_,h=>absurd rfl h
 |[x],h,_=>h x (by simp)
 |x::y::l,h,_=>by
  intro r hr;have ih:=join_lx tx tk (y::l) (fun z hz=>h z (by simp[hz])) (by simp) r hr;have e:jR [44,32] ((x::y::l).map tx)++r=tx x++(44::32::(jR [44,32] ((y::l).map tx)++r)):=by
   simp[jR]
  have e2:lJ ((x::y::l).map tk)=tk x++(sg 44::lJ ((y::l).map tk)):=(by simp[lJ]);rw[e,e2,h x (by simp) _ (yL.of _ (by decide) (by decide)),qF 44 (by simp),nZ,ih];rw[show((3,[44],(0,0,[])):kG)=sg 44 from rfl,c3j,d1b]
def Bl32(o:List UInt8):Prop:=o=[]\/∃s,o=32::s
theorem Bl32.fin{o:List UInt8}(h:Bl32 o):∀r,yL r->yL (o++r):=by
 intro r hr;rcases h with rfl|⟨s,rfl⟩
 ·exact hr
 ·exact end_blank s r
theorem kw_where:Wd d6o:=⟨119,[104,101,114,101],rfl,by decide,by decide,by decide⟩
theorem kw_select:Wd d3h:=⟨115,[101,108,101,99,116],rfl,by decide,by decide,by decide⟩
theorem kw_distinct:Wd d2s:=⟨100,[105,115,116,105,110,99,116],rfl,by decide,by decide,by decide⟩
theorem kw_from:Wd d5p:=⟨102,[114,111,109],rfl,by decide,by decide,by decide⟩
theorem kw_join:Wd d5v:=⟨106,[111,105,110],rfl,by decide,by decide,by decide⟩
theorem kw_on:Wd wOn:=⟨111,[110],rfl,by decide,by decide,by decide⟩
theorem kw_group:Wd d4q:=⟨103,[114,111,117,112],rfl,by decide,by decide,by decide⟩
theorem kw_by:Wd wBy:=⟨98,[121],rfl,by decide,by decide,by decide⟩
theorem kw_having:Wd d3v:=⟨104,[97,118,105,110,103],rfl,by decide,by decide,by decide⟩
theorem kw_order:Wd d5n:=⟨111,[114,100,101,114],rfl,by decide,by decide,by decide⟩
theorem kw_desc:Wd d4e:=⟨100,[101,115,99],rfl,by decide,by decide,by decide⟩
theorem kw_limit:Wd d6p:=⟨108,[105,109,105,116],rfl,by decide,by decide,by decide⟩
theorem jo_lx{j:Jo}(h:d4c j.s=true)(hc:eH j.on=true)(hf:Fits j.on):Lx (e0o j) (tkJo j):=by
 have h1:=((Lx.word kw_join).then (so_lx h)).then (Lx.word kw_on)
 have h2:=(h1.then (b4o _ j.on (aH _) hc hf)).blank;unfold e0o tkJo;simpa[iK] using h2
theorem od_lx{o:Od}(hc:eH o.x=true)(hf:Fits o.x):Lx (d4r o) (tkOd o):=by
 have h1:=b4o _ o.x (aH _) hc hf;unfold d4r tkOd;split
 ·have:=h1.then (Lx.word kw_desc)
  simpa[iK] using this
 ·simpa using h1
theorem jos_lx:∀(l:List Jo),(∀j∈l,d4c j.s=true/\eH j.on=true/\Fits j.on)->Lx (l.flatMap e0o) (l.flatMap tkJo)/\Bl32 (l.flatMap e0o)
 |[],_=>⟨Lx.nil,.inl rfl⟩
 |j::l,h=>by
  obtain⟨h1,h2,h3⟩:=h j (by simp);obtain⟨ih,ihb⟩:=jos_lx l fun k hk=>h k (by simp[hk]);refine⟨?_,.inr ⟨_,by simp[e0o];rfl⟩⟩;rw[List.flatMap_cons,List.flatMap_cons];exact(jo_lx h1 h2 h3).app ih ihb.fin
structure FitsQ(q:Qu):Prop where
 items:∀i∈q.items,Fits i.x
 joins:∀j∈q.joins,Fits j.on
 wher:Fits q.wher
 group:∀x∈q.group,Fits x
 having:Fits q.having
 orders:∀o∈q.orders,Fits o.x
 limit:I64 q.limit
theorem chk_int(n:Int):chk 2 n []=0:=by simp[chk]
theorem lit_int(n:Int):lit 2 n []=dQ n:=by unfold lit;rw[if_neg (by decide),if_neg (by decide),if_pos rfl]
theorem opt_lx{w:List UInt8}(hw:Wd w){x:Ex}(h:d3i x=true\/eH x=true)(hf:Fits x):Lx (if d3i x then[] else[32]++w++[32]++eY x) (if d3i x then[] else wd w::tkE x)/\Bl32 (if d3i x then[] else[32]++w++[32]++eY x):=by
 split
 ·exact⟨Lx.nil,.inl rfl⟩
 ·rename_i hn;have hc:=h.resolve_left hn;have:=((Lx.word hw).then (b4o _ x (aH _) hc hf)).blank;exact⟨by simpa[iK] using this,.inr ⟨_,by simp;rfl⟩⟩
theorem two_lx{w v:List UInt8}(hw:Wd w)(hv:Wd v){α:Type}(tx:α->List UInt8)(tk:α->List kG)(l:List α)(h:∀y∈l,Lx (tx y) (tk y))(e:Prop)[Decidable e](he:e↔l=[]):
  Lx (if e then[] else[32]++w++[32]++v++[32]++jR [44,32] (l.map tx)) (if e then[] else wd w::wd v::lJ (l.map tk))/\Bl32 (if e then[] else[32]++w++[32]++v++[32]++jR [44,32] (l.map tx)):=by
 split
 ·exact⟨Lx.nil,.inl rfl⟩
 ·rename_i hn;have:=(((Lx.word hw).then (Lx.word hv)).then (join_lx tx tk l h (fun e0=>hn (he.2 e0)))).blank;exact⟨by simpa[iK] using this,.inr ⟨_,by simp;rfl⟩⟩
theorem q_lx{q:Qu}(h:looseQ q=true)(hf:FitsQ q):Lx (d8n q) (tkQ q):=by
 unfold looseQ at h;simp only[aQ,jO,decide_eq_true_eq,jA] at h;obtain⟨⟨⟨⟨⟨⟨⟨⟨hi0,hi⟩,hs⟩,hw⟩,hh⟩,_⟩,hj⟩,hg⟩,ho⟩:=h;have hI:=join_lx d5x tkIt q.items (fun i hm=>it_lx (hi i hm) (hf.items i hm)) (by intro e;rw[e] at hi0;simp at hi0);have hA:Lx (d3h++[32]++(if q.distinct then d2s++[32] else[])++d5q q.items++[32]++d5p++[32]++d4g q.frm) (wd d3h::((if q.distinct then[wd d2s] else[])++(lJ (q.items.map tkIt)++wd d5p::tkSo q.frm))):=by
  have h1:Lx (d3h++32::((if q.distinct then d2s++[32] else[])++d5q q.items)) (wd d3h::((if q.distinct then[wd d2s] else[])++lJ (q.items.map tkIt))):=by
   cases q.distinct
   ·exact(Lx.word kw_select).then hI
   ·have:=(Lx.word kw_select).then ((Lx.word kw_distinct).then hI)
    simpa[d5q] using this
  have:=(h1.then (Lx.word kw_from)).then (so_lx hs)
  simpa[iK] using this
 obtain⟨hJ,eJ⟩:=jos_lx q.joins fun j hm=>⟨(hj j hm).1,(hj j hm).2,hf.joins j hm⟩
 obtain⟨hW,eW⟩:=opt_lx kw_where hw hf.wher;obtain⟨hG,eG⟩:=two_lx kw_group kw_by eY tkE q.group (fun x hm=>b4o _ x (aH _) (hg x hm) (hf.group x hm)) (q.group=[]) Iff.rfl;obtain⟨hH,eH⟩:=opt_lx kw_having (hh.imp id And.left) hf.having;obtain⟨hO,eO⟩:=two_lx kw_order kw_by d4r tkOd q.orders (fun o hm=>od_lx (ho o hm) (hf.orders o hm)) (q.orders=[]) Iff.rfl;have hL:Lx (if 0<=q.limit then[32]++d6p++[32]++dQ q.limit else[]) (if 0<=q.limit then[wd d6p,oW (2,q.limit,[])] else[])/\Bl32 (if 0<=q.limit then[32]++d6p++[32]++dQ q.limit else[]):=by
  split
  ·rename_i h0;have hv:Lx (dQ q.limit) [oW (2,q.limit,[])]:=fun r hr=>by
    have:=c6w (chk_int q.limit) hf.limit (fun _=>h0) hr;rw[lit_int] at this;rw[this,c7u]
   have:=((Lx.word kw_limit).then hv).blank;exact⟨by simpa[iK] using this,.inr ⟨_,by simp;rfl⟩⟩
  ·exact⟨Lx.nil,.inl rfl⟩
 have:=(((((hA.app hJ eJ.fin).app hW eW.fin).app hG eG.fin).app hH eH.fin).app hO eO.fin).app hL.1 hL.2.fin;unfold d8n tkQ;simpa[iK] using this
end
section
theorem tkE_shape{x:Ex}(hc:eH x=true):(∃q,tkE x=sg 40::q)\/(∃v:Int×Int×List UInt8,chk v.1 v.2.1 v.2.2=0/\tkE x=[oW v])\/(∃f,a6u f/\tkE x=[wd f])\/(∃f n,a6u f/\a6u n/\tkE x=[wd f,sg 46,wd n])\/(∃f q,a6u f/\tkE x=wd f::sg 40::q):=by
 obtain⟨hr,-⟩:=a0u hc;obtain⟨k,v,t,nm,o,args⟩:=x
 replace hr:dV k v t nm o args=true:=hr
 unfold dV at hr;simp only[tkE];unfold b4p;by_cases h1:k=1
 ·rw[if_pos h1] at hr⊢;simp only[aQ,beq_iff_eq] at hr;exact .inr (.inl ⟨v,hr.1.2,rfl⟩)
 rw[if_neg h1] at hr⊢;by_cases h2:k=2
 ·rw[if_pos h2] at hr⊢;simp only[aQ,beq_iff_eq,jO] at hr;by_cases h0:t=[]
  ·rw[if_pos h0];exact .inr (.inr (.inl ⟨nm,b0e hr.1.2,rfl⟩))
  ·rw[if_neg h0];exact .inr (.inr (.inr (.inl ⟨t,nm,b0e (hr.2.resolve_left h0),b0e hr.1.2,rfl⟩)))
 rw[if_neg h2] at hr⊢;by_cases h3:k=3
 ·subst h3;rw[if_neg (by decide),if_neg (by decide)];split
  ·exact .inl ⟨_,rfl⟩
  ·split
   ·rename_i h19;have hN:a6u (bI o):=by
     rcases h19 with rfl|rfl
     ·exact⟨⟨108,[101,110,103,116,104],rfl,by decide,by decide,by decide⟩,rfl⟩
     ·exact⟨⟨97,[98,115],rfl,by decide,by decide,by decide⟩,rfl⟩
    exact .inr (.inr (.inr (.inr ⟨_,_,hN,rfl⟩)))
   ·split
    ·exact .inl ⟨_,rfl⟩
    ·exact .inl ⟨_,rfl⟩
 rw[if_neg h3] at hr;by_cases h4:k=4
 ·rw[if_pos h4];exact .inr (.inr (.inr (.inr ⟨bZ,_,⟨⟨99,[111,97,108,101,115,99,101],rfl,by decide,by decide,by decide⟩,rfl⟩,rfl⟩)))
 rw[if_neg h4] at hr⊢;by_cases h5:k=5
 ·rw[if_pos h5] at hr⊢;simp only[aQ] at hr;exact .inr (.inr (.inr (.inr ⟨nm,_,(b4s hr.1.2).1,rfl⟩)))
 ·rw[if_neg h5] at hr;cases hr
def EndsE(b:kG):Prop:=c4d b/\∀j,j<7->xB j b
def endsB(b:kG):Bool:= !bIs b [40]&& !bIs b [46]&&(iU 7).all fun j=>c5v j b
theorem endsE_of{b:kG}(h:endsB b=true):EndsE b:=by
 unfold endsB at h;simp only[aQ,nT,jA,List.mem_range] at h;exact⟨h.1,fun j hj=>zR (h.2 j hj)⟩
theorem expr_reads{ts:List Tok}(hT:lC ts){x:Ex}(hc:eH x=true)(hd:rY x<=60){k:Nat}{b:kG}{m:List kG}(hr:Rest ts k (tkE x++b::m))(he:EndsE b):d3j ts k= .good (k+(tkE x).length) x:=by
 obtain⟨hA,hB⟩:=a6s _ x (aH _) hc;have h1:=kL hA hB (n:=0) (d:=0) (by omega) hr he.1 (by omega) (fun j _ hj=>he.2 j hj);have hk:k<ts.length:=by
  obtain⟨c,q,e,_⟩:=hB;rw[e] at hr;have:=hr.lt;simp at this;omega
 have hends:=yM hT hk;have h2:uD ts k= .good (k+(tkE x).length) x:=c5x h1 (by intro e;unfold uD at hends;rw[e] at hends;exact hends);unfold d3j;rw[h2]
theorem name_reads{ts:List Tok}{k:Nat}{n:List UInt8}{m:List kG}(hn:a6u n)(h:Rest ts k (wd n::m))(hm:m≠[]):mM ts k=some (n,k+1):=by
 obtain⟨x,hx,hb⟩:=h.head;have hk:x.k=1:=congrArg Prod.fst hb;have ht:x.t=n:=congrArg (fun b:kG=>b.2.1) hb;unfold mM;rw[hx];simp only;rw[if_pos (by unfold fH;rw[hk,ht,hn.kw];rfl),ht,h.next hm]
theorem name_not{ts:List Tok}{k:Nat}{b:kG}{m:List kG}(h:Rest ts k (b::m))(hb:b.1≠1\/kwB b.2.1=true):mM ts k=none:=by
 obtain⟨x,hx,rfl⟩:=h.head;unfold mM;rw[hx];simp only;rw[if_neg];unfold fH;rcases hb with hb|hb
 ·have hb':x.k≠1:=hb;have:(x.k==1)=false:=(by simpa using hb');rw[this];simp
 ·rw[show kwB x.t=true from hb];simp
theorem as_reads{ts:List Tok}{k:Nat}{al:List UInt8}{b:kG}{m:List kG}(h:d3c al=true)(hr:Rest ts k ((if al=[] then[] else[wd wAs,wd al])++b::m))(hb:bIs b wAs=false):asR ts k= .good (k+(if al=[] then[] else[wd wAs,wd al]:List kG).length) al:=by
 unfold asR;split at hr
 ·rename_i h0;subst h0;have hr':Rest ts k (b::m):=hr;rw[gZ hr' hb,if_pos rfl];rfl
 ·rename_i h0;have hn:mO al=true:=by
   unfold d3c at h;simp only[jO,beq_iff_eq] at h;exact h.resolve_left h0
  have hr':Rest ts k (wd wAs::wd al::b::m):=hr;rw[take_one hr' (by simp) (by decide)];simp only;rw[name_reads (b0e hn) hr'.tail (by simp),if_neg h0];rfl
theorem named_split(l:List kG)(al:List UInt8):namedTk l al=l++(if al=[] then[] else[wd wAs,wd al]):=by
 unfold namedTk;split<;>simp
theorem so_reads{ts:List Tok}{k:Nat}{s:So}{b:kG}{m:List kG}(h:d4c s=true)(hr:Rest ts k (tkSo s++b::m))(hb:bIs b wAs=false):d3b ts k= .good (k+(tkSo s).length) s:=by
 unfold d4c at h;simp only[aQ] at h;unfold tkSo at hr⊢;rw[named_split] at hr⊢;have hr1:Rest ts k (wd s.t::((if s.al=[] then[] else[wd wAs,wd s.al])++b::m)):=(by simpa using hr);have hr2:=hr1.tail;unfold d3b;rw[name_reads (b0e h.1) hr1 (by simp)];simp only;rw[as_reads h.2 hr2 hb];simp only[d2u.bind,bD,dB];rw[Nat.add_assoc]
theorem no_star{ts:List Tok}{k:Nat}{x:Ex}{b:kG}{m:List kG}(hc:eH x=true)(hr:Rest ts k (tkE x++b::m))(hb:bIs b [46]=false):(mM ts k).bind (fun p=>(bH ts p.2 [[46],[42]]).map fun k2=>(p.1,k2))=none:=by
 rcases tkE_shape hc with⟨q,e⟩|⟨v,hv,e⟩|⟨f,hf,e⟩|⟨f,n,hf,hn,e⟩|⟨f,q,hf,e⟩
 ·rw[e] at hr;rw[name_not (b:=sg 40) hr (.inl (by decide))];rfl
 ·rw[e] at hr;rw[name_not (b:=oW v) hr ?_]
  ·rfl
  ·obtain⟨v1,v2,v3⟩:=v;by_cases h01:v1=0\/v1=1
   ·right;obtain⟨_,hcs⟩:=vB hv;rcases hcs with⟨rfl,rfl,rfl⟩|⟨rfl,rfl,rfl⟩|⟨rfl,rfl,rfl⟩|⟨rfl,rfl⟩|⟨rfl,rfl⟩|⟨rfl,rfl⟩
    ·rfl
    ·rfl
    ·rfl
    ·omega
    ·omega
    ·omega
   ·left;unfold oW;rw[if_neg h01];simp
 ·rw[e] at hr;have hr1:Rest ts k (wd f::b::m):=hr;rw[name_reads hf hr1 (by simp)];simp only[bU];rw[gZ hr1.tail hb];rfl
 ·rw[e] at hr;have hr1:Rest ts k (wd f::sg 46::wd n::b::m):=hr;rw[name_reads hf hr1 (by simp)];simp only[bU];rw[sK hr1.tail (by simp) (by decide),gZ hr1.tail.tail (by show(true&&(n==[42]))=false;rw[a3o hn 42 (by decide)];rfl)];rfl
 ·rw[e] at hr;have hr1:Rest ts k (wd f::sg 40::(q++b::m)):=(by simpa using hr);rw[name_reads hf hr1 (by simp)];simp only[bU];rw[gZ hr1.tail (by decide)];rfl
theorem first_of{x:Ex}(hc:eH x=true):∃c q,tkE x=c::q/\a9a c:=(a6s _ x (aH _) hc).2
def EndsI(b:kG):Prop:=EndsE b/\bIs b wAs=false
theorem it_reads{ts:List Tok}(hT:lC ts){i:It}(h:d3r i=true)(hd:i.star=false->rY i.x<=60){k:Nat}{b:kG}{m:List kG}(hr:Rest ts k (tkIt i++b::m))(he:EndsI b):d3x ts k= .good (k+(tkIt i).length) i:=by
 obtain⟨star,t,x,al⟩:=i;unfold d3r at h;unfold tkIt at hr⊢;unfold d3x;cases star
 ·simp only[fM,if_false,aQ,beq_iff_eq] at h hr⊢;obtain⟨⟨rfl,hc⟩,hal⟩:=h;rw[named_split] at hr⊢;obtain⟨c,q,e,hcf⟩:=first_of hc;have hr0:Rest ts k (tkE x++((if al=[] then[] else[wd wAs,wd al])++b::m)):=(by simpa using hr);have hr1:Rest ts k (c::(q++((if al=[] then[] else[wd wAs,wd al])++b::m))):=(by rw[e] at hr0;exact hr0);have hsplit:∃b' m',((if al=[] then[] else[wd wAs,wd al])++b::m)=b'::m'/\EndsE b':=by
   split
   ·exact⟨b,m,rfl,he.1⟩
   ·exact⟨wd wAs,_,rfl,endsE_of (by rfl)⟩
  obtain⟨b',m',e',he'⟩:=hsplit;have hr2:Rest ts k (tkE x++b'::m'):=(by rw[<-e'];exact hr0);rw[gZ hr1 hcf.2.2];simp only;rw[no_star hc hr2 he'.1.2];simp only;rw[expr_reads hT hc (hd rfl) hr2 he'];simp only[d2u.bind];have hr3:=hr0.app;rw[as_reads hal hr3 he.2];simp only[bD];rw[Nat.add_assoc]
 ·simp only[if_true,aQ,beq_iff_eq] at h hr⊢;obtain⟨⟨hn,rfl⟩,ht⟩:=h;have hx:=none_eq hn;subst hx;split at hr
  ·rename_i h0;subst h0;have hr1:Rest ts k (sg 42::b::m):=hr;rw[take_one hr1 (by simp) (by decide),if_pos rfl];rfl
  ·rename_i h0;have hN:a6u t:=by
    unfold d3c at ht;simp only[jO,beq_iff_eq] at ht;exact b0e (ht.resolve_left h0)
   have hr1:Rest ts k (wd t::sg 46::sg 42::b::m):=hr;rw[gZ hr1 (by show(true&&(t==[42]))=false;rw[a3o hN 42 (by decide)];rfl)];simp only;rw[name_reads hN hr1 (by simp)];simp only[bU];rw[sK hr1.tail (by simp) (by decide),take_one hr1.tail.tail (by simp) (by decide),if_neg h0];rfl
theorem list_reads{α:Type}{ts:List Tok}{one:Nat->d2u α}{tk:α->List kG}(G:kG->Prop)(hG:G (sg 44)):∀(l:List α) (f k:Nat) (acc:List α) (b:kG) (m:List kG),l≠[]->(∀y∈l,∀k b m,Rest ts k (tk y++b::m)->G b->one k= .good (k+(tk y).length) y)->G b->bIs b [44]=false->
  l.length<=f->Rest ts k (lJ (l.map tk)++b::m)->d3o ts one f k acc= .good (k+(lJ (l.map tk)).length) (acc++l)
 |[],_,_,_,_,_,h,_,_,_,_,_=>absurd rfl h
 |_::_,0,_,_,_,_,_,_,_,_,hf,_=>by simp at hf
 |[x],f+1,k,acc,b,m,_,h,hb,hc,_,hr=>by
  have hr1:Rest ts k (tk x++b::m):=hr;unfold d3o;rw[h x (by simp) k b m hr1 hb];simp only[d2u.bind];rw[gZ hr1.app hc];rfl
 |x::y::l,f+1,k,acc,b,m,_,h,hb,hc,hf,hr=>by
  have ej:lJ ((x::y::l).map tk)=tk x++sg 44::lJ ((y::l).map tk):=(by simp[lJ]);have hr1:Rest ts k (tk x++sg 44::(lJ ((y::l).map tk)++b::m)):=(by rw[ej] at hr;simpa using hr);have hr2:=hr1.app;have ih:=list_reads G hG (y::l) f (k+(tk x).length+1) (acc++[x]) b m (by simp) (fun z hz=>h z (by simp[hz])) hb hc (by simp at hf⊢;omega) hr2.tail;unfold d3o;rw[h x (by simp) k (sg 44) _ hr1 hG];simp only[d2u.bind];rw[take_one hr2 (by simp) (by decide)];simp only;rw[ih,ej];simp[Nat.add_assoc,oJ]
theorem join_len{α:Type}{tk:α->List kG}:∀(l:List α),(∀y∈l,1<=(tk y).length)->l.length<=(lJ (l.map tk)).length
 |[],_=>by simp
 |[x],h=>by simpa[lJ] using h x (by simp)
 |x::y::l,h=>by
  have ih:=join_len (y::l) fun z hz=>h z (by simp[hz]);have:=h x (by simp);have ej:lJ ((x::y::l).map tk)=tk x++sg 44::lJ ((y::l).map tk):=(by simp[lJ]);rw[ej];simp only[aX,bD] at ih⊢;omega
end
section
abbrev endB:kG:=(4,[],(0,0,[]))
def HeadIn(S:List (List UInt8))(l:List kG):Prop:=∃b m,l=b::m/\(b=endB\/∃w∈S,b=wd w)
theorem HeadIn.more{S T:List (List UInt8)}{l:List kG}(h:HeadIn S l)(hs:∀w∈S,w∈T):HeadIn T l:=by
 obtain⟨b,m,e,hb⟩:=h;exact⟨b,m,e,hb.imp id fun⟨w,hw,e⟩=>⟨w,hs w hw,e⟩⟩
theorem HeadIn.seg{S:List (List UInt8)}{l seg:List kG}{w:List UInt8}(h:HeadIn S l)(hs:seg=[]\/∃q,seg=wd w::q):HeadIn (w::S) (seg++l):=by
 rcases hs with rfl|⟨q,rfl⟩
 ·exact h.more fun v hv=>by simp[hv]
 ·exact⟨wd w,q++l,rfl,.inr ⟨w,by simp,rfl⟩⟩
abbrev afterW:List (List UInt8):=[wOn,wReturning]
abbrev behindW:List (List UInt8):=d5v::d6o::d4q::d3v::d5n::d6p::afterW
theorem head_all{p:kG->Prop}(h0:p endB){S:List (List UInt8)}(h:∀w∈S,p (wd w)){b:kG}(hb:b=endB\/∃w∈S,b=wd w):p b:=by
 rcases hb with rfl|⟨w,hw,rfl⟩
 ·exact h0
 ·exact h w hw
def okB(b:kG):Bool:=endsB b&& !bIs b wAs&& !bIs b [44]&& !bIs b e6b&& !bIs b d4e
theorem behind_ok{b:kG}(hb:b=endB\/∃w∈behindW,b=wd w):okB b=true:=
 head_all (p:=fun b=>okB b=true) (by decide) (by decide) hb
theorem ok_parts{b:kG}(h:okB b=true):EndsE b/\bIs b wAs=false/\bIs b [44]=false/\bIs b e6b=false/\bIs b d4e=false:=by
 unfold okB at h;simp only[aQ,nT] at h;exact⟨endsE_of h.1.1.1.1,h.1.1.1.2,h.1.1.2,h.1.2,h.2⟩
theorem jo_reads{ts:List Tok}(hT:lC ts){j:Jo}(h:d4c j.s=true)(hc:eH j.on=true)(hd:rY j.on<=60){k:Nat}{b:kG}{m:List kG}(hr:Rest ts k (tkSo j.s++wd wOn::(tkE j.on++b::m)))(he:EndsE b):
  d5h ts k= .good (k+(tkSo j.s).length+1+(tkE j.on).length) j:=by
 unfold d5h;rw[so_reads h hr (by decide)];simp only[d2u.bind];have hr2:=hr.app;rw[take_one hr2 (by simp) (by decide)];simp only;rw[expr_reads hT hc hd hr2.tail he]
theorem jos_reads{ts:List Tok}(hT:lC ts):∀(l:List Jo) (f k:Nat) (acc:List Jo) (R:List kG),(∀j∈l,d4c j.s=true/\eH j.on=true/\rY j.on<=60)->HeadIn (d6o::d4q::d3v::d5n::d6p::afterW) R->l.length<f->Rest ts k (l.flatMap tkJo++R)->
  d4u ts f k acc= .good (k+(l.flatMap tkJo).length) (acc++l)
 |_,0,_,_,_,_,_,h,_=>by omega
 |[],f+1,k,acc,R,_,hR,_,hr=>by
  obtain⟨b,m,rfl,hb⟩:=hR;have hr1:Rest ts k (b::m):=hr;unfold d4u;rw[gZ hr1 (head_all (p:=fun b=>bIs b d5v=false) (by decide) (by decide) hb)];simp
 |j::l,f+1,k,acc,R,h,hR,hf,hr=>by
  obtain⟨h1,h2,h3⟩:=h j (by simp);have e:(j::l).flatMap tkJo++R=wd d5v::(tkSo j.s++wd wOn::(tkE j.on++(l.flatMap tkJo++R))):=(by simp[tkJo]);rw[e] at hr;have hnext:HeadIn behindW (l.flatMap tkJo++R):=hR.seg (by
   cases l with
   |nil=>exact .inl rfl
   |cons a l=>exact .inr ⟨_,by simp[tkJo];rfl⟩)
  obtain⟨b,m,e2,hb⟩:=hnext;have hr1:=hr.tail;have hr2:=hr1.app.tail.app;have ih:=jos_reads hT l f (k+1+(tkSo j.s).length+1+(tkE j.on).length) (acc++[j]) R (fun i hi=>h i (by simp[hi])) hR (by simp at hf;omega) hr2;rw[e2] at hr1;unfold d4u;rw[take_one hr (by simp) (by decide)];simp only;rw[jo_reads hT h1 h2 h3 hr1 (ok_parts (behind_ok hb)).1];simp only[d2u.bind];rw[ih];simp[tkJo,Nat.add_assoc,oJ,Nat.add_left_comm]
theorem od_reads{ts:List Tok}(hT:lC ts){o:Od}(hc:eH o.x=true)(hd:rY o.x<=60){k:Nat}{b:kG}{m:List kG}(hr:Rest ts k (tkOd o++b::m))(he:EndsE b/\bIs b e6b=false/\bIs b d4e=false):d3f ts k= .good (k+(tkOd o).length) o:=by
 obtain⟨h1,h4,h5⟩:=he;obtain⟨x,down⟩:=o;unfold tkOd at hr⊢;unfold d3f;cases down
 ·have hr1:Rest ts k (tkE x++b::m):=by simpa using hr
  rw[expr_reads hT hc hd hr1 h1];simp only[d2u.bind];rw[gZ hr1.app h4];simp only;rw[gZ hr1.app h5];simp
 ·have hr1:Rest ts k (tkE x++wd d4e::b::m):=by simpa using hr
  rw[expr_reads hT hc hd hr1 (endsE_of (by decide))];simp only[d2u.bind];rw[gZ hr1.app (by decide)];simp only;rw[take_one hr1.app (by simp) (by decide)];simp[Nat.add_assoc]
theorem maybe_reads{ts:List Tok}(hT:lC ts){w:List UInt8}(hw:bIs (wd w) w=true){x:Ex}(h:d3i x=true\/eH x=true)(hd:rY x<=60){k:Nat}{b:kG}{m:List kG}(hr:Rest ts k ((if d3i x then[] else wd w::tkE x)++b::m))(he:EndsE b)(hb:bIs b w=false):
  d3s ts w k= .good (k+(if d3i x then[] else wd w::tkE x:List kG).length) x:=by
 unfold d3s;split at hr
 ·rename_i hn;have hr1:Rest ts k (b::m):=hr;rw[gZ hr1 hb,if_pos hn,none_eq hn];rfl
 ·rename_i hn;have hr1:Rest ts k (wd w::(tkE x++b::m)):=hr;rw[take_one hr1 (by simp) hw];simp only;rw[expr_reads hT (h.resolve_left hn) hd hr1.tail he,if_neg hn];simp[Nat.add_assoc,oJ]
theorem limit_reads{ts:List Tok}{n:Int}(hn: -1<=n){k:Nat}{b:kG}{m:List kG}(hr:Rest ts k ((if 0<=n then[wd d6p,oW (2,n,[])] else[])++b::m))(hb:bIs b d6p=false):d8h ts k= .good (k+(if 0<=n then[wd d6p,oW (2,n,[])] else[]:List kG).length) n:=by
 unfold d8h;split at hr
 ·rename_i h0;have hr1:Rest ts k (wd d6p::oW (2,n,[])::b::m):=hr;have hr2:=hr1.tail;rw[take_one hr1 (by simp) (by decide)];simp only;obtain⟨x,hx,hb⟩:=hr2.head;have hv:x.v=(2,n,[]):=by
   have:=congrArg (fun b:kG=>b.2.2) hb;rw[show oW (2,n,[])=(2,lit 2 n [],(2,n,[])) by unfold oW;rw[if_neg (by simp)]] at this;exact this
  rw[hx];simp only;rw[hv,if_pos rfl,hr2.next (by simp),if_pos h0];rfl
 ·rename_i h0;have hr1:Rest ts k (b::m):=hr;rw[gZ hr1 hb,if_neg h0];have:n= -1:=(by omega);rw[this];rfl
theorem it_first{i:It}(h:d3r i=true):∃c q,tkIt i=c::q/\bIs c d2s=false:=by
 obtain⟨star,t,x,al⟩:=i;unfold d3r at h;unfold tkIt;cases star
 ·simp only[fM,if_false,aQ,beq_iff_eq] at h⊢;rw[named_split];have kw:∀f,a6u f->bIs (wd f) d2s=false:=fun f hf=>(by show(true&&(f==d2s))=false;rw[b9y hf.kw (by rfl)];rfl);rcases tkE_shape h.1.2 with⟨q,e⟩|⟨v,hv,e⟩|⟨f,hf,e⟩|⟨f,n,hf,hn,e⟩|⟨f,q,hf,e⟩<;>rw[e]
  ·exact⟨_,_,rfl,by decide⟩
  ·refine⟨_,_,rfl,?_⟩;obtain⟨v1,v2,v3⟩:=v;by_cases h01:v1=0\/v1=1
   ·obtain⟨_,hcs⟩:=vB hv;rcases hcs with⟨rfl,rfl,rfl⟩|⟨rfl,rfl,rfl⟩|⟨rfl,rfl,rfl⟩|⟨rfl,rfl⟩|⟨rfl,rfl⟩|⟨rfl,rfl⟩
    ·decide
    ·decide
    ·decide
    ·omega
    ·omega
    ·omega
   ·unfold oW;rw[if_neg h01];rfl
  ·exact⟨_,_,rfl,kw f hf⟩
  ·exact⟨_,_,rfl,kw f hf⟩
  ·exact⟨_,_,rfl,kw f hf⟩
 ·simp only[if_true,aQ,beq_iff_eq] at h⊢;split
  ·exact⟨_,_,rfl,by decide⟩
  ·rename_i h0;have hN:a6u t:=by
    have:=h.2;unfold d3c at this;simp only[jO,beq_iff_eq] at this;exact b0e (this.resolve_left h0)
   exact⟨_,_,rfl,by show(true&&(t==d2s))=false;rw[b9y hN.kw (by rfl)];rfl⟩
end
section
structure DeepQ(q:Qu):Prop where
 items:∀i∈q.items,rY i.x<=60
 joins:∀j∈q.joins,rY j.on<=60
 wher:rY q.wher<=60
 group:∀x∈q.group,rY x<=60
 having:rY q.having<=60
 orders:∀o∈q.orders,rY o.x<=60
theorem tkE_pos{x:Ex}(h:eH x=true):1<=(tkE x).length:=by
 obtain⟨c,q,e,_⟩:=first_of h;rw[e];simp
theorem tkIt_pos{i:It}(h:d3r i=true):1<=(tkIt i).length:=by
 obtain⟨c,q,e,_⟩:=it_first h;rw[e];simp
theorem jo_count(l:List Jo):l.length<=(l.flatMap tkJo).length:=by
 induction l with
 |nil=>simp
 |cons j l ih=>simp[tkJo] at ih⊢;omega
theorem Rest.short{ts:List Tok}{k:Nat}{l m:List kG}(h:Rest ts k (l++m))(hk:k<=ts.length):k+l.length+m.length=ts.length:=by
 unfold Rest at h;have:=congrArg lV h;simp at this;omega
theorem if_head{p:Prop}[Decidable p]{w:List UInt8}{q:List kG}:(if p then[] else wd w::q:List kG)=[]\/∃r,(if p then[] else wd w::q:List kG)=wd w::r:=by
 split
 ·exact .inl rfl
 ·exact .inr ⟨_,rfl⟩
theorem query_reads{ts:List Tok}(hT:lC ts){q:Qu}(h:looseQ q=true)(hd:DeepQ q){K:Nat}(hK:K<=ts.length){R:List kG}(hR:HeadIn afterW R)(hr:Rest ts K (tkQ q++R)):d6b ts K= .good (K+(tkQ q).length) q:=by
 have hlen:=hr.short hK;have h0:=h;unfold looseQ at h;simp only[aQ,jO,decide_eq_true_eq,jA] at h;obtain⟨⟨⟨⟨⟨⟨⟨⟨hi0,hi⟩,hs⟩,hw⟩,hh⟩,hlim⟩,hj⟩,hg⟩,ho⟩:=h;obtain⟨distinct,items,frm,joins,wher,group,having,orders,limit⟩:=q;simp only at hi0 hi hs hw hh hlim hj hg ho;obtain⟨d1,d2,d3,d4,d5,d6⟩:=hd;simp only at d1 d2 d3 d4 d5 d6;obtain⟨L,hL⟩:∃L:List kG,L=(if 0<=limit then[wd d6p,oW (2,limit,[])] else[]):=⟨_,rfl⟩
 obtain⟨O,hO⟩:∃O:List kG,O=(if orders=[] then[] else wd d5n::wd wBy::lJ (orders.map tkOd)):=⟨_,rfl⟩
 obtain⟨V,hV⟩:∃V:List kG,V=(if d3i having then[] else wd d3v::tkE having):=⟨_,rfl⟩
 obtain⟨G,hG⟩:∃G:List kG,G=(if group=[] then[] else wd d4q::wd wBy::lJ (group.map tkE)):=⟨_,rfl⟩
 obtain⟨Wh,hWh⟩:∃Wh:List kG,Wh=(if d3i wher then[] else wd d6o::tkE wher):=⟨_,rfl⟩
 have H9:HeadIn (d6p::afterW) (L++R):=hR.seg (by rw[hL];split;exact .inr ⟨_,rfl⟩;exact .inl rfl);have H8:HeadIn (d5n::d6p::afterW) (O++(L++R)):=H9.seg (by rw[hO];exact if_head);have H7:HeadIn (d3v::d5n::d6p::afterW) (V++(O++(L++R))):=H8.seg (by rw[hV];exact if_head);have H6:HeadIn (d4q::d3v::d5n::d6p::afterW) (G++(V++(O++(L++R)))):=H7.seg (by rw[hG];exact if_head);have H5:HeadIn (d6o::d4q::d3v::d5n::d6p::afterW) (Wh++(G++(V++(O++(L++R))))):=H6.seg (by rw[hWh];exact if_head);have H4:HeadIn behindW (joins.flatMap tkJo++(Wh++(G++(V++(O++(L++R)))))):=H5.seg (by
  cases joins with
  |nil=>exact .inl rfl
  |cons a l=>exact .inr ⟨_,by simp[tkJo];rfl⟩)
 have etk:tkQ ⟨distinct,items,frm,joins,wher,group,having,orders,limit⟩=wd d3h::((if distinct then[wd d2s] else[])++(lJ (items.map tkIt)++wd d5p::(tkSo frm++(joins.flatMap tkJo++(Wh++(G++(V++(O++L)))))))):=by
  unfold tkQ;rw[hL,hO,hV,hG,hWh]
 rw[etk] at hr hlen⊢;have r0:Rest ts K (wd d3h::((if distinct then[wd d2s] else[])++(lJ (items.map tkIt)++wd d5p::(tkSo frm++(joins.flatMap tkJo++(Wh++(G++(V++(O++(L++R)))))))))):=(by simpa[iK] using hr);have r1:=r0.tail;have hne:items≠[]:=(by intro e;rw[e] at hi0;simp at hi0);obtain⟨kd,hkd,hsome,r2⟩:∃kd,(bH ts (K+1) [d2s]).getD (K+1)=kd/\(bH ts (K+1) [d2s]).isSome=distinct/\Rest ts kd (lJ (items.map tkIt)++wd d5p::(tkSo frm++(joins.flatMap tkJo++(Wh++(G++(V++(O++(L++R)))))))):=by
  cases distinct
  ·have r1':Rest ts (K+1) (lJ (items.map tkIt)++wd d5p::(tkSo frm++(joins.flatMap tkJo++(Wh++(G++(V++(O++(L++R)))))))):=r1;obtain⟨c,t,e,hc⟩:∃c t,lJ (items.map tkIt)=c::t/\bIs c d2s=false:=by
    match items,hne with
    |[i],_=>exact it_first (hi i (by simp))
    |i::i2::l,_=>
     obtain⟨c,t,e,hc⟩:=it_first (hi i (by simp));exact⟨c,t++sg 44::lJ ((i2::l).map tkIt),by simp[lJ,e],hc⟩
   have r1c:=r1';rw[e] at r1c;have hno:bH ts (K+1) [d2s]=none:=gZ r1c hc _;exact⟨K+1,by rw[hno];rfl,by rw[hno];rfl,r1'⟩
  ·have r1':Rest ts (K+1) (wd d2s::(lJ (items.map tkIt)++wd d5p::(tkSo frm++(joins.flatMap tkJo++(Wh++(G++(V++(O++(L++R))))))))):=r1;have hyes:=take_one r1' (by simp) (s:=d2s) (by decide);exact⟨K+1+1,by rw[hyes];rfl,by rw[hyes];rfl,r1'.tail⟩
 have hkdl:kd<=ts.length:=by
  have:(bH ts (K+1) [d2s]).getD (K+1)<=K+2:=by
   cases distinct
   ·have:bH ts (K+1) [d2s]=none:=by simpa using hsome
    rw[this];simp
   ·have r1':Rest ts (K+1) (wd d2s::_):=r1;have hyes:=take_one r1' (by simp) (s:=d2s) (by decide);rw[hyes];simp
  have:K+2<=ts.length:=(by have e:=hlen;simp only[aX,bD] at e;omega);omega
 have s2:=r2.short hkdl;have hit:d7m ts kd= .good (kd+(lJ (items.map tkIt)).length) items:=by
  have:=list_reads (ts:=ts) (one:=d3x ts) (tk:=tkIt) EndsI ⟨endsE_of (by decide),by decide⟩ items ts.length kd [] (wd d5p) _ hne (fun i hm k b m hr he=>it_reads hT (hi i hm) (fun _=>d1 i hm) hr he) ⟨endsE_of (by decide),by decide⟩ (by decide) (by
   have:=join_len (tk:=tkIt) items fun i hm=>tkIt_pos (hi i hm);omega) r2
  simpa[d7m] using this
 have r3:=r2.app;have r4:=r3.tail;obtain⟨b4,m4,e4,hb4⟩:=H4;have r4':=r4;rw[e4] at r4';have hso:=so_reads hs r4' (ok_parts (behind_ok hb4)).2.1;have r5:=r4.app;have l6:∀{k:Nat} {l m:List kG},Rest ts k (l++m)->k<=ts.length->k+l.length<=ts.length:=fun hq hk=>by
  have:=hq.short hk;omega
 have k3:=l6 r2 hkdl;have k4:kd+(lJ (items.map tkIt)).length+1<=ts.length:=(by have:=r3.lt;omega);have k5:=l6 r4 k4;have hjo:=jos_reads hT joins ts.length _ [] _ (fun j hm=>⟨(hj j hm).1,(hj j hm).2,d2 j hm⟩) H5 (by
  have c:=jo_count joins;have e:=r5.short k5;obtain⟨b5,m5,e5,_⟩:=H5;rw[e5] at e;simp only[aX] at e;omega) r5
 have r6:=r5.app;obtain⟨b6,m6,e6,hb6⟩:=H6;have r6':=r6;rw[hWh,e6] at r6';have ok6:=ok_parts (behind_ok (hb6.imp id fun⟨w,hw,e⟩=>⟨w,by revert hw;simp;intro hw;simp[hw],e⟩));have hwh:=maybe_reads hT (by decide) hw d3 r6' ok6.1 (head_all (p:=fun b=>bIs b d6o=false) (by decide) (by decide) hb6);rw[<-hWh] at hwh;have r7:=r6.app;obtain⟨b7,m7,e7,hb7⟩:=H7;have ok7:=ok_parts (behind_ok (hb7.imp id fun⟨w,hw,e⟩=>⟨w,by revert hw;simp;intro hw;simp[hw],e⟩));have hgr:d4v ts (0+1)=d4v ts (0+1):=rfl;clear hgr;have hgr:∀k,Rest ts k (G++(V++(O++(L++R))))->k<=ts.length->d4v ts k= .good (k+G.length) group:=by
  intro k hk hkl;unfold d4v;by_cases hg0:group=[]
  ·rw[if_pos hg0] at hG;subst hG;rw[e7] at hk;have hk':Rest ts k (b7::m7):=hk;rw[gZ hk' (head_all (p:=fun b=>bIs b d4q=false) (by decide) (by decide) hb7),hg0];rfl
  ·rw[if_neg hg0] at hG;have hsh:=hk.short hkl;subst hG;have hk':Rest ts k (wd d4q::wd wBy::(lJ (group.map tkE)++b7::m7)):=(by rw[e7] at hk;simpa using hk);rw[sK hk' (by simp) (by decide),take_one hk'.tail (by simp) (by decide)];simp only;have:=list_reads (ts:=ts) (one:=d3j ts) (tk:=tkE) EndsE (endsE_of (by decide)) group ts.length (k+1+1) [] b7 m7 hg0 (fun x hm k b m hr he=>expr_reads hT (hg x hm) (d4 x hm) hr he) ok7.1 ok7.2.2.1 (by
    have:=join_len (tk:=tkE) group fun x hm=>tkE_pos (hg x hm);simp at hsh;omega) hk'.tail.tail
   rw[this,cB]
   congr 1
   simp only[aX];omega
 have r8:=r7.app;obtain⟨b8,m8,e8,hb8⟩:=H8;have ok8:=ok_parts (behind_ok (hb8.imp id fun⟨w,hw,e⟩=>⟨w,by revert hw;simp;intro hw;simp[hw],e⟩));have hhv:∀k,Rest ts k (V++(O++(L++R)))->d5u ts group k= .good (k+V.length) having:=by
  intro k hk;unfold d5u;split
  ·rename_i hg0;have hn:d3i having=true:=by
    rcases hh with hn|⟨_,hp⟩
    ·exact hn
    ·rw[hg0] at hp;simp at hp
   rw[if_pos hn] at hV;subst hV;rw[none_eq hn];rfl
  ·rw[hV,e8] at hk;have:=maybe_reads hT (by decide) (hh.imp id And.left) d5 hk ok8.1 (head_all (p:=fun b=>bIs b d3v=false) (by decide) (by decide) hb8);rw[this,<-hV]
 obtain⟨b9,m9,e9,hb9⟩:=H9;have ok9:=behind_ok (hb9.imp id fun⟨w,hw,e⟩=>⟨w,by revert hw;simp;intro hw;simp[hw],e⟩);have hor:∀k,Rest ts k (O++(L++R))->k<=ts.length->d5s ts k= .good (k+O.length) orders:=by
  intro k hk hkl;unfold d5s;by_cases ho0:orders=[]
  ·rw[if_pos ho0] at hO;subst hO;rw[e9] at hk;have hk':Rest ts k (b9::m9):=hk;rw[gZ hk' (head_all (p:=fun b=>bIs b d5n=false) (by decide) (by decide) hb9),ho0];rfl
  ·rw[if_neg ho0] at hO;have hsh:=hk.short hkl;subst hO;have hk':Rest ts k (wd d5n::wd wBy::(lJ (orders.map tkOd)++b9::m9)):=(by rw[e9] at hk;simpa using hk);rw[sK hk' (by simp) (by decide),take_one hk'.tail (by simp) (by decide)];simp only;have:=list_reads (ts:=ts) (one:=d3f ts) (tk:=tkOd) (fun b=>EndsE b/\bIs b e6b=false/\bIs b d4e=false) ⟨endsE_of (by decide),by decide,by decide⟩ orders ts.length (k+1+1) [] b9 m9 ho0 (fun o hm k b m hr he=>od_reads hT (ho o hm) (d6 o hm) hr he) ⟨(ok_parts ok9).1,(ok_parts ok9).2.2.2.1,(ok_parts ok9).2.2.2.2⟩ (ok_parts ok9).2.2.1 (by
    have:=join_len (tk:=tkOd) orders fun o hm=>by
     have:=tkE_pos (ho o hm);unfold tkOd;simp;omega
    simp at hsh;omega) hk'.tail.tail
   rw[this,cB]
   congr 1
   simp only[aX];omega
 have hli:∀k,Rest ts k (L++R)->d8h ts k= .good (k+L.length) limit:=by
  intro k hk;rw[hL] at hk⊢;obtain⟨b,m,e,hb⟩:=hR;rw[e] at hk;exact limit_reads hlim hk (head_all (p:=fun b=>bIs b d6p=false) (by decide) (by decide) hb)
 have k6:=l6 r5 k5;have k7:=l6 r6 k6;have k8:=l6 r7 k7;have r9:=r8.app;have k9:=l6 r8 k8;have r10:=r9.app;have rend:=r10.app;have hQ:d6b ts K= .good (kd+(lJ (items.map tkIt)).length+1+(tkSo frm).length+(joins.flatMap tkJo).length+Wh.length+G.length+V.length+O.length+L.length) ⟨distinct,items,frm,joins,wher,group,having,orders,limit⟩:=by
  unfold d6b;rw[take_one r0 (by simp) (by decide)];simp only;rw[hkd,hsome,hit];simp only[d2u.bind];rw[take_one r3 (by rw[e4];simp) (by decide)];simp only;rw[hso];simp only;rw[hjo];simp only[cB];rw[hwh];simp only;rw[hgr _ r7 k7];simp only;rw[hhv _ r8];simp only;rw[hor _ r9 k9];simp only;rw[hli _ r10]
 rw[hQ]
 congr 1
 have hkd2:kd=K+1+(if distinct then[wd d2s] else[]:List kG).length:=by
  cases distinct
  ·have:bH ts (K+1) [d2s]=none:=by simpa using hsome
   rw[this] at hkd;simpa using hkd.symm
  ·have r1':Rest ts (K+1) (wd d2s::_):=r1;rw[take_one r1' (by simp) (s:=d2s) (by decide)] at hkd;simpa using hkd.symm
 rw[hkd2];simp;omega
theorem loose_reads{q:Qu}(h:looseQ q=true)(hf:FitsQ q)(hd:DeepQ q):∃ts,jQ (d8n q)=some ts/\d6b (ts++[eT (d8n q).length]) 0= .good ts.length q:=by
 have h1:=q_lx h hf [] yL.nil;rw[List.append_nil,c6x] at h1;simp only[lX,List.append_nil] at h1;obtain⟨ts,h2,h3⟩:=c3z h1 (d8n q).length;have hr:Rest (ts++[eT (d8n q).length]) 0 (tkQ q++[endB]):=by
  unfold Rest;rw[kW,h3];rfl
 have hR:=query_reads (a4t h2) h hd (dL _) ⟨endB,[],rfl,.inl rfl⟩ hr;rw[gD] at hR;have hlen:(tkQ q).length=ts.length:=(by rw[<-h3];simp);exact⟨ts,h2,by rw[hR,hlen]⟩
theorem parseQ_text{q:Qu}(h:d3e q=true)(hf:FitsQ q)(hd:DeepQ q)(hl:(d8n q).length<=4000):d2r (d8n q)=(0,q):=by
 obtain⟨h1,h0⟩:=right_loose h;obtain⟨ts,h2,h3⟩:=loose_reads h1 hf hd;unfold d2r;rw[if_neg (by omega),show jQ (d8n q)=some ts from h2];simp only;unfold d5c;rw[h3];simp only[d2u.bind];rw[h0,if_neg (by simp)];simp[eT]
theorem parseQ_many{q:Qu}(h:looseQ q=true)(hm:d7t q=true)(hf:FitsQ q)(hd:DeepQ q)(hl:(d8n q).length<=4000):d2r (d8n q)=(270,d3z):=by
 obtain⟨ts,h2,h3⟩:=loose_reads h hf hd;unfold d2r;rw[if_neg (by omega),show jQ (d8n q)=some ts from h2];simp only;unfold d5c;rw[h3];simp only[d2u.bind];rw[hm,if_pos rfl]
end
section
def aE:Ex:=b3w [] [97]
def qMany(n m g o:Nat):Qu:=⟨false,List.replicate n ⟨false,[],aE,[]⟩,⟨[116],[]⟩,List.replicate m ⟨⟨[116],[]⟩,aE⟩,zeroE,List.replicate g aE,zeroE,List.replicate o ⟨aE,false⟩,-1⟩
def aheadB(i:Nat)(s:List UInt8):List UInt8:=if 0<i then[44,32] else s
def headT:List UInt8:=[115,101,108,101,99,116,32,97]
def itemsT(n:Nat):List UInt8:=(List.replicate n [44,32,97]).flatten
def fromT:List UInt8:=[32,102,114,111,109,32,116]
def joinT:List UInt8:=[32,106,111,105,110,32,116,32,111,110,32,97]
def joinsT(m:Nat):List UInt8:=(List.replicate m joinT).flatten
def groupW:List UInt8:=[32,103,114,111,117,112,32,98,121,32]
def orderW:List UInt8:=[32,111,114,100,101,114,32,98,121,32]
def listT(w:List UInt8):Nat->List UInt8
 |0=>[]
 |i+1=>listT w i++aheadB i w++[97]
theorem aE_right:eH aE=true:=by decide+kernel
theorem aE_text:eY aE=[97]:=by decide+kernel
theorem t_right:d4c ⟨[116],[]⟩=true:=by decide+kernel
theorem t_text:d4g ⟨[116],[]⟩=[116]:=by decide+kernel
theorem none_zero:d3i zeroE=true:=by decide+kernel
theorem aE_deep:rY aE=0:=by decide
theorem zero_deep:rY zeroE=0:=by decide
theorem aE_fits:Fits aE:= .mk 2 (0,0,[]) [] [97] 0 [] ⟨by decide,by decide⟩ (fun y hy=>by cases hy)
theorem zero_fits:Fits zeroE:= .mk 0 (0,0,[]) [] [] 0 [] ⟨by decide,by decide⟩ (fun y hy=>by cases hy)
theorem join_rep:∀n,jR [44,32] (List.replicate (n+1) ([97]:List UInt8))=[97]++itemsT n
 |0=>rfl
 |n+1=>by
  show[97]++[44,32]++jR [44,32] (List.replicate (n+1) [97])=_;rw[join_rep n];simp[itemsT,List.replicate_succ]
theorem items_snoc(n:Nat):itemsT (n+1)=itemsT n++[44,32,97]:=by
 unfold itemsT;rw[List.replicate_succ',List.flatten_append];simp
theorem joins_snoc(n:Nat):joinsT (n+1)=joinsT n++joinT:=by
 unfold joinsT;rw[List.replicate_succ',List.flatten_append];simp
theorem list_rep(w:List UInt8):∀n,listT w (n+1)=w++([97]++itemsT n)
 |0=>by simp[listT,aheadB,itemsT]
 |n+1=>by
  rw[listT,list_rep w n,items_snoc];simp[aheadB]
theorem list_zero(w:List UInt8)(n:Nat):(if n=0 then[] else w++jR [44,32] (List.replicate n ([97]:List UInt8)))=listT w n:=by
 cases n with
 |zero=>rfl
 |succ n=>rw[if_neg (by omega),join_rep,list_rep]
theorem many_text(n m g o:Nat):d8n (qMany (n+1) m g o)=headT++itemsT n++fromT++joinsT m++listT groupW g++listT orderW o:=by
 have h1:d5q (List.replicate (n+1) ⟨false,[],aE,[]⟩)=[97]++itemsT n:=by
  unfold d5q;rw[List.map_replicate,show d5x ⟨false,[],aE,[]⟩=[97] by show d4t (eY aE) []=_;rw[aE_text];rfl,join_rep]
 have h2:(List.replicate m (⟨⟨[116],[]⟩,aE⟩:Jo)).flatMap e0o=joinsT m:=by
  unfold joinsT;rw[List.flatMap_def,List.map_replicate,show e0o ⟨⟨[116],[]⟩,aE⟩=joinT by unfold e0o;rw[t_text,aE_text];rfl]
 have h3:(if List.replicate g aE=[] then[] else[32]++d4q++[32]++wBy++[32]++jR [44,32] ((List.replicate g aE).map eY))=listT groupW g:=by
  rw[List.map_replicate,aE_text,<-list_zero];cases g with
  |zero=>rfl
  |succ g=>rw[if_neg (by simp),if_neg (by omega)];rfl
 have h4:(if List.replicate o (⟨aE,false⟩:Od)=[] then[] else[32]++d5n++[32]++wBy++[32]++jR [44,32] ((List.replicate o (⟨aE,false⟩:Od)).map d4r))=listT orderW o:=by
  rw[List.map_replicate,show d4r ⟨aE,false⟩=[97] by unfold d4r;rw[aE_text];rfl,<-list_zero];cases o with
  |zero=>rfl
  |succ o=>rw[if_neg (by simp),if_neg (by omega)];rfl
 unfold d8n qMany;simp only;rw[h1,h2,h3,h4,t_text,none_zero];simp[headT,fromT,d3h,d5p]
theorem many_loose(n m g o:Nat):looseQ (qMany (n+1) m g o)=true:=by
 unfold looseQ qMany;simp only[List.length_replicate,List.all_replicate];rw[t_right,none_zero];simp[d3r,aE_right,d3c]
theorem rep_mem{α:Type}{n:Nat}{a x:α}(h:x∈List.replicate n a):x=a:=(List.mem_replicate.1 h).2
theorem many_fits(n m g o:Nat):FitsQ (qMany n m g o):=
 ⟨fun i hi=>by rw[rep_mem hi];exact aE_fits,fun j hj=>by rw[rep_mem hj];exact aE_fits,zero_fits,fun x hx=>by rw[rep_mem hx];exact aE_fits,zero_fits,fun x hx=>by rw[rep_mem hx];exact aE_fits,⟨by show(-9223372036854775808:Int)<=-1;decide,by show(-1:Int)<=9223372036854775807;decide⟩⟩
theorem many_deep(n m g o:Nat):DeepQ (qMany n m g o):=
 have ha:rY aE<=60:=(by rw[aE_deep];decide);have hz:rY zeroE<=60:=by rw[zero_deep];decide
 ⟨fun i hi=>by rw[rep_mem hi];exact ha,fun j hj=>by rw[rep_mem hj];exact ha,hz,fun x hx=>by rw[rep_mem hx];exact ha,hz,fun x hx=>by rw[rep_mem hx];exact ha⟩
theorem items_len(n:Nat):(itemsT n).length=3 * n:=by
 induction n with
 |zero=>rfl
 |succ n ih=>rw[items_snoc,bD,ih];simp;omega
theorem joins_len(n:Nat):(joinsT n).length=12 * n:=by
 induction n with
 |zero=>rfl
 |succ n ih=>rw[joins_snoc,bD,ih];simp[joinT];omega
theorem list_len(w:List UInt8)(hw:w.length<=20):∀n,(listT w n).length<=21 * n
 |0=>by simp[listT]
 |n+1=>by
  have:=list_len w hw n;rw[listT,bD,bD];unfold aheadB;split<;>simp<;>omega
theorem many_len{n m g o:Nat}(hn:n<=40)(hm:m<=8)(hg:g<=12)(ho:o<=12):(headT++itemsT n++fromT++joinsT m++listT groupW g++listT orderW o).length<=4000:=by
 have h1:=list_len groupW (by decide) g;have h2:=list_len orderW (by decide) o;simp only[bD,items_len,joins_len];have:headT.length=8:=rfl;have:fromT.length=7:=rfl;omega
theorem parse_many{n m g o:Nat}(hn:n+1<=40)(hm:m<=8)(hg:g<=12)(ho:o<=12):
  d2r (headT++itemsT n++fromT++joinsT m++listT groupW g++listT orderW o)=if 32<n+1\/4<m\/8<g\/8<o then(270,d3z) else(0,qMany (n+1) m g o):=by
 have hl:=many_len (n:=n) (by omega) hm hg ho;have e:=many_text n m g o;rw[<-e] at hl⊢;split
 ·rename_i h;refine parseQ_many (many_loose n m g o) ?_ (many_fits _ _ _ _) (many_deep _ _ _ _) hl;simp[d7t,qMany];omega
 ·rename_i h;refine parseQ_text ?_ (many_fits _ _ _ _) (many_deep _ _ _ _) hl;have h1:=many_loose n m g o;unfold looseQ at h1;simp only[aQ,jO,decide_eq_true_eq] at h1;obtain⟨⟨⟨⟨⟨⟨⟨⟨hi0,hi⟩,hs⟩,hw⟩,hh⟩,hlim⟩,hj⟩,hgg⟩,hoo⟩:=h1;unfold d3e d4l;simp only[aQ,jO,decide_eq_true_eq];refine⟨⟨⟨⟨⟨⟨⟨⟨⟨hi0,?_⟩,hi⟩,hs⟩,hw⟩,hh⟩,hlim⟩,⟨?_,hj⟩⟩,⟨?_,hgg⟩⟩,⟨?_,hoo⟩⟩<;>simp[qMany]<;>omega
end
section
theorem aE_ok:e0m aE:=⟨by decide,.mk 2 (0,0,[]) [] [97] 0 [] (by decide) (by decide) (fun y hy=>by cases hy),aE_fits,fun _=>by rw[aE_text];decide⟩
theorem zE_ok:e0m zeroE:=⟨by decide,.mk 0 (0,0,[]) [] [] 0 [] (by decide) (by decide) (fun y hy=>by cases hy),zero_fits,fun h=>absurd h (by decide)⟩
theorem many_ok{n m g o:Nat}(hn:n+1<=40)(hm:m<=8)(hg:g<=12)(ho:o<=12):e1a (qMany (n+1) m g o):=
 ⟨fun i hi=>by rw[rep_mem hi];exact⟨aE_ok,by decide,by decide⟩,⟨show([116]:List UInt8).length<=9223372036854775807 by decide,show([]:List UInt8).length<=9223372036854775807 by decide⟩,fun j hj=>by rw[rep_mem hj];exact⟨⟨by decide,by decide⟩,aE_ok⟩,zE_ok,fun x hx=>by rw[rep_mem hx];exact aE_ok,zE_ok,fun x hx=>by rw[rep_mem hx];exact aE_ok,
  (by simp[qMany]<;>omega),(by simp[qMany]<;>omega),(by simp[qMany]<;>omega),(by simp[qMany]<;>omega),fun _=>by rw[many_text];have:=many_len (n:=n) (m:=m) (g:=g) (o:=o) (by omega) hm hg ho;omega,⟨show(-9223372036854775808:Int)<=-1 by decide,show(-1:Int)<=9223372036854775807 by decide⟩⟩
theorem many_right{n m g o:Nat}(h:¬(32<n+1\/4<m\/8<g\/8<o)):d3e (qMany (n+1) m g o)=true:=by
 have h1:=many_loose n m g o;unfold looseQ at h1;simp only[aQ,jO,decide_eq_true_eq] at h1;obtain⟨⟨⟨⟨⟨⟨⟨⟨hi0,hi⟩,hs⟩,hw⟩,hh⟩,hlim⟩,hj⟩,hgg⟩,hoo⟩:=h1;unfold d3e d4l;simp only[aQ,jO,decide_eq_true_eq];refine⟨⟨⟨⟨⟨⟨⟨⟨⟨hi0,?_⟩,hi⟩,hs⟩,hw⟩,hh⟩,hlim⟩,⟨?_,hj⟩⟩,⟨?_,hgg⟩⟩,⟨?_,hoo⟩⟩<;>simp[qMany]<;>omega
theorem ahead17_any(k:Nat)(s:List UInt8)(w:World):Calls Tryz.prog 13 #[.int .i64 (k:Int),S s] w fun e w'=>e= .returned (S (aheadB k s))/\w'=w:=by
 unfold aheadB;by_cases h:0<k
 ·have h':(0:Int)<(k:Int):=by omega
  rw[if_pos h];clear h;go_enter Tryz.func13,Tryz.ntmps13;go_wp2;go_ret;exact⟨rfl,rfl⟩
 ·have h':¬(0:Int)<(k:Int):=by omega
  rw[if_neg h];obtain rfl:k=0:=(by omega);go_enter Tryz.func13,Tryz.ntmps13;go_wp2;go_ret;exact⟨rfl,rfl⟩
theorem ahead_len(i:Nat)(w:List UInt8)(hw:w.length<=20):(aheadB i w).length<=20:=by
 unfold aheadB;split
 ·decide
 ·exact hw
theorem S_app(a b:List UInt8):(Value.string (⟨a.toArray⟩++⟨b.toArray⟩):Value)=S (a++b):=congrArg Value.string (c4c a b)
theorem qmany_out(i j a b:Int)(h:¬(1<=i/\i<=40/\0<=j/\j<=8/\0<=a/\a<=12/\0<=b/\b<=12))(W:World)(hG:nD W):Calls Tryz.prog 4 #[.int .i64 i,.int .i64 j,.agg #[.int .i64 a,.int .i64 b]] W (Yes W):=by
 have HG:=aB hG;have HB0:=aB ((Bl.refl W).alloc (.cells #[.int .i64 a,.int .i64 b] 46));clear hG;by_cases h1:i<1
 ·clear h;go_enter Tryz.func4,Tryz.ntmps4;go_wp2_with fail
  (with_reducible refine(d7c _ (HG.o.bl HB0.o)).mono ?_)
  rintro e w1 ⟨rfl,hb1⟩;go_wp2;go_ret;exact⟨rfl,HB0.o.call hb1⟩
 by_cases h2:40<i
 ·clear h;go_enter Tryz.func4,Tryz.ntmps4;go_wp2_with fail
  (with_reducible refine(d7c _ (HG.o.bl HB0.o)).mono ?_)
  rintro e w1 ⟨rfl,hb1⟩;go_wp2;go_ret;exact⟨rfl,HB0.o.call hb1⟩
 by_cases h3:j<0
 ·clear h;go_enter Tryz.func4,Tryz.ntmps4;go_wp2_with fail
  (with_reducible refine(d7c _ (HG.o.bl HB0.o)).mono ?_)
  rintro e w1 ⟨rfl,hb1⟩;go_wp2;go_ret;exact⟨rfl,HB0.o.call hb1⟩
 by_cases h4:8<j
 ·clear h;go_enter Tryz.func4,Tryz.ntmps4;go_wp2_with fail
  (with_reducible refine(d7c _ (HG.o.bl HB0.o)).mono ?_)
  rintro e w1 ⟨rfl,hb1⟩;go_wp2;go_ret;exact⟨rfl,HB0.o.call hb1⟩
 by_cases h5:a<0
 ·clear h;go_enter Tryz.func4,Tryz.ntmps4;go_wp2_with fail
  (with_reducible refine(d7c _ (HG.o.bl HB0.o)).mono ?_)
  rintro e w1 ⟨rfl,hb1⟩;go_wp2;go_ret;exact⟨rfl,HB0.o.call hb1⟩
 by_cases h6:12<a
 ·clear h;go_enter Tryz.func4,Tryz.ntmps4;go_wp2_with fail
  (with_reducible refine(d7c _ (HG.o.bl HB0.o)).mono ?_)
  rintro e w1 ⟨rfl,hb1⟩;go_wp2;go_ret;exact⟨rfl,HB0.o.call hb1⟩
 by_cases h7:b<0
 ·clear h;go_enter Tryz.func4,Tryz.ntmps4;go_wp2_with fail
  (with_reducible refine(d7c _ (HG.o.bl HB0.o)).mono ?_)
  rintro e w1 ⟨rfl,hb1⟩;go_wp2;go_ret;exact⟨rfl,HB0.o.call hb1⟩
 by_cases h8:12<b
 ·clear h;go_enter Tryz.func4,Tryz.ntmps4;go_wp2_with fail
  (with_reducible refine(d7c _ (HG.o.bl HB0.o)).mono ?_)
  rintro e w1 ⟨rfl,hb1⟩;go_wp2;go_ret;exact⟨rfl,HB0.o.call hb1⟩
 omega
theorem qmany_in(n m g o:Nat)(hn:n+1<=40)(hm:m<=8)(hg:g<=12)(ho:o<=12)(W:World)(hG:nD W):Calls Tryz.prog 4 #[.int .i64 ((n:Int)+1),.int .i64 (m:Int),.agg #[.int .i64 (g:Int),.int .i64 (o:Int)]] W (Yes W):=by
 have HG:=aB hG;have HB0:=aB ((Bl.refl W).alloc (.cells #[.int .i64 (g:Int),.int .i64 (o:Int)] 46));have HX0:=aB (aN W (.cells #[.int .i64 (g:Int),.int .i64 (o:Int)] 46));have HLEN:=aB (many_len (n:=n) (m:=m) (g:=g) (o:=o) (by omega) hm hg ho);have HP:=aB (parse_many hn hm hg ho);have HOK:=aB (many_ok hn hm hg ho);have HMT:=aB (many_text n m g o);have HMR:=aB (@many_right n m g o);have g1:¬(n:Int)+1<1:=(by omega);have g2:¬40<(n:Int)+1:=(by omega);have g3:¬(m:Int)<0:=(by omega);have g4:¬8<(m:Int):=(by omega);have g5:¬(g:Int)<0:=(by omega);have g6:¬12<(g:Int):=(by omega);have g7:¬(o:Int)<0:=(by omega);have g8:¬12<(o:Int):=(by omega);obtain⟨c0,c1,-,-,-⟩:=aU HX0.o;clear hG;go_enter Tryz.func4,Tryz.ntmps4;go_wp2_with fail;generalize W.alloc (.cells #[.int .i64 (g:Int),.int .i64 (o:Int)] 46)=W1 at *;clear g1 g2 g3 g4 g5 g6 g7 g8;go_loopw [7,8] (fun sv iv wr=>∃(k:Nat) (s0:List UInt8) (v0:Value),sv=v0/\k<=n/\iv= .int .i64 ((k:Int)+1)/\Hid (wr=W1)/\Hid (v0=S s0)/\Hid (s0=headT++itemsT k)) (fun _ iv _=>n+1-(intOf iv).toNat)
 case atStart=>exact⟨0,headT,_,rfl,dL _,rfl,rfl,rfl,by simp[Hid,itemsT]⟩
 case round=>
 obtain⟨k,s0,v0,rfl,hk,rfl,HW,HV,HS⟩:=hrel;obtain rfl:=HV.o;obtain rfl:=HW.o;clear HV HW;by_cases hlt:k<n
 ·have hlt':(k:Int)+1<(n:Int)+1:=by omega
  have hsl:s0.length+3<=100000000:=(by rw[HS.o];simp only[bD,items_len];have h8:headT.length=8:=rfl;omega);go_wp2;go_roundw
  case rel=>exact⟨k+1,s0++[44,32,97],_,rfl,by omega,by go_num,(by first |rfl|(show True;trivial)),by show _=_;first |rfl|exact S_app _ _|simp,by show _=_;rw[HS.o,items_snoc,iK]⟩
  case measure=>simp[intOf];omega
 obtain rfl:k=n:=(by omega);have g1:¬(k:Int)+1<(k:Int)+1:=(by omega);have hsl:s0.length+7<=100000000:=(by rw[HS.o];simp only[bD,items_len];have h8:headT.length=8:=rfl;omega);clear hlt hk;go_wp2_with fail;clear g1;go_loopw [7,9] (fun sv iv wr'=>∃(i:Nat) (s1:List UInt8) (v0:Value),sv=v0/\i<=m/\iv= .int .i64 (i:Int)/\Hid (wr'=wr)/\Hid (v0=S s1)/\Hid (s1=headT++itemsT k++fromT++joinsT i)) (fun _ iv _=>m-(intOf iv).toNat)
 case atStart=>exact⟨0,s0++fromT,_,rfl,dL _,rfl,rfl,by show _=_;first |rfl|exact S_app _ _|simp,by show _=_;rw[HS.o];simp[joinsT]⟩
 case round=>
 clear HS hsl;obtain⟨i,s1,v0,rfl,hi,rfl,HW,HV,HS⟩:=hrel;obtain rfl:=HV.o;obtain rfl:=HW.o;clear HV HW;by_cases hlt:i<m
 ·have hlt':(i:Int)<(m:Int):=by omega
  have hsl:s1.length+12<=100000000:=(by rw[HS.o];simp only[bD,items_len,joins_len];have h8:headT.length=8:=rfl;have h7:fromT.length=7:=rfl;omega);go_wp2;go_roundw
  case rel=>exact⟨i+1,s1++joinT,_,rfl,by omega,by go_num,(by first |rfl|(show True;trivial)),by show _=_;first |rfl|exact S_app _ _|simp,by show _=_;rw[HS.o,joins_snoc,iK]⟩
  case measure=>simp[intOf];omega
 obtain rfl:i=m:=(by omega);have g1:¬(i:Int)<(i:Int):=(by omega);clear hlt hi;go_wp2_with fail;clear g1;go_loopw [7,10] (fun sv iv wr'=>∃(a:Nat) (s2:List UInt8) (v0:Value),sv=v0/\a<=g/\iv= .int .i64 (a:Int)/\Hid (wr'=wr)/\Hid (v0=S s2)/\Hid (s2=headT++itemsT k++fromT++joinsT i++listT groupW a)) (fun _ iv _=>g-(intOf iv).toNat)
 case atStart=>exact⟨0,s1,_,rfl,dL _,rfl,rfl,rfl,by show _=_;rw[HS.o];simp[listT]⟩
 case round=>
 clear HS;obtain⟨a,s2,v0,rfl,ha,rfl,HW,HV,HS⟩:=hrel;obtain rfl:=HV.o;obtain rfl:=HW.o;clear HV HW;by_cases hlt:a<g
 ·have hlt':(a:Int)<(g:Int):=by omega
  have hsl:s2.length+(aheadB a groupW).length+1<=100000000:=(by rw[HS.o];simp only[bD,items_len,joins_len];have h8:headT.length=8:=rfl;have h7:fromT.length=7:=rfl;have h9:=list_len groupW (by decide) a;have h10:=ahead_len a groupW (by decide);omega);go_wp2_with fail;refine(ahead17_any a groupW _).mono ?_;rintro e w' ⟨rfl,rfl⟩;go_wp2;go_roundw
  case rel=>exact⟨a+1,s2++aheadB a groupW++[97],_,rfl,by omega,by go_num,(by first |rfl|(show True;trivial)),by show _=_;first |rfl|(rw[<-S_app,<-c4c])|simp,by show _=_;rw[HS.o];simp only[listT,iK]⟩
  case measure=>simp[intOf];omega
 obtain rfl:a=g:=(by omega);have g1:¬(a:Int)<(a:Int):=(by omega);clear hlt ha;go_wp2_with fail;clear g1;go_loopw [7,11] (fun sv iv wr'=>∃(b:Nat) (s3:List UInt8) (v0:Value),sv=v0/\b<=o/\iv= .int .i64 (b:Int)/\Hid (wr'=wr)/\Hid (v0=S s3)/\Hid (s3=headT++itemsT k++fromT++joinsT i++listT groupW a++listT orderW b)) (fun _ iv _=>o-(intOf iv).toNat)
 case atStart=>exact⟨0,s2,_,rfl,dL _,rfl,rfl,rfl,by show _=_;rw[HS.o];simp[listT]⟩
 case round=>
 clear HS;obtain⟨b,s3,v0,rfl,hb,rfl,HW,HV,HS⟩:=hrel;obtain rfl:=HV.o;obtain rfl:=HW.o;clear HV HW;by_cases hlt:b<o
 ·have hlt':(b:Int)<(o:Int):=by omega
  have hsl:s3.length+(aheadB b orderW).length+1<=100000000:=(by rw[HS.o];simp only[bD,items_len,joins_len];have h8:headT.length=8:=rfl;have h7:fromT.length=7:=rfl;have h9:=list_len groupW (by decide) a;have h11:=list_len orderW (by decide) b;have h10:=ahead_len b orderW (by decide);omega);go_wp2_with fail;refine(ahead17_any b orderW _).mono ?_;rintro e w' ⟨rfl,rfl⟩;go_wp2;go_roundw
  case rel=>exact⟨b+1,s3++aheadB b orderW++[97],_,rfl,by omega,by go_num,(by first |rfl|(show True;trivial)),by show _=_;first |rfl|(rw[<-S_app,<-c4c])|simp,by show _=_;rw[HS.o];simp only[listT,iK]⟩
  case measure=>simp[intOf];omega
 obtain rfl:b=o:=(by omega);have g1:¬(b:Int)<(b:Int):=(by omega);clear hlt hb;go_wp2_with fail;clear g1;have HP2:=aB (show d2r s3=if 32<k+1\/4<i\/8<a\/8<b then(270,d3z) else(0,qMany (k+1) i a b) from by rw[HS.o];exact HP.o);have HX:Hid (∀W' v,¬(32<k+1\/4<i\/8<a\/8<b)->Bl W W'->d5o W' (qMany (k+1) i a b) v->Calls Tryz.prog 14 #[v] W' fun e w'=>e= .returned (.tuple #[S s3,.int .i64 0])/\Bl W' w'):=fun W' v hno hb hv=>by
  have h:=e3l HOK.o (HMR.o hno) W' v hv (HG.o.bl hb);rw[HMT.o,<-HS.o] at h;exact h
 have hs3:s3.length<=9223372036854775807:=(by rw[HS.o];have:=HLEN.o;omega);clear HP HMT HMR HOK HLEN HS;refine(d5l s3 hs3 _ (HG.o.bl HB0.o)).mono ?_;intro e w1 hp;obtain⟨v,hv,rfl,hb1⟩:=hp;have HX1:=aB ((hb1.block _ (lt_of_heap HX0.o)).trans HX0.o);have HB1:=aB (HB0.o.call hb1);have hz1:=lt_of_heap HX1.o;clear hb1 HX0 HB0 c0 c1 hs3;have HY1:=aB (aN w1 (.cells zQL.toArray 37));by_cases hover:32<k+1\/4<i\/8<a\/8<b
 ·have HPP:d2r s3=(270,d3z):=by rw[HP2.o,if_pos hover]
  rw[HPP] at hv⊢;obtain⟨si,sj,sw,sg,sh,so,rfl,hpp⟩:=hv;obtain⟨ai,ci,aj,cj,aw,cw,ag,cg,ah,ch,ao,co,rfl,rfl,rfl,rfl,rfl,rfl⟩:=hpp.slices;clear hpp HPP HP2 HX;go_wp2_with (refine bA rfl rfl rfl rfl (quC d3z (.slice ai 0 ci) (.slice aj 0 cj) (.slice aw 0 cw) (.slice ag 0 cg) (.slice ah 0 ch) (.slice ao 0 co)) HY1.o rfl rfl tC rfl ?_)
  intro w2 hB2 hX2;have HB2:=aB ((HB1.o.alloc (.cells zQL.toArray 37)).but hB2 (by have:=HB1.o.size;omega));have HX2:=aB (bT ((hB2.same _ (by omega)).trans ((aW w1 (.cells zQL.toArray 37) hz1).trans HX1.o)) hX2);obtain⟨c0,c1,-,-,-⟩:=aU HX2.o.1;have k1:w2.cell? ⟨w1.heap.size,1,none⟩=some (.slice ai 0 ci):=(aG HX2.o.2 1).trans rfl;clear hB2 hX2 HY1 HX1 HB1;by_cases h1:32<(k:Int)+1
  ·clear hover;go_wp2_with fail
   (with_reducible refine(d7k _ _).mono ?_)
   rintro e w' ⟨rfl,rfl⟩;go_wp2_with fail
   (with_reducible refine(d7c _ (HG.o.bl HB2.o)).mono ?_)
   rintro e w6 ⟨rfl,hb6⟩;go_wp2;go_ret;exact⟨rfl,HB2.o.call hb6⟩
  by_cases h2:4<(i:Int)
  ·clear hover;go_wp2_with fail
   (with_reducible refine(d7k _ _).mono ?_)
   rintro e w' ⟨rfl,rfl⟩;go_wp2_with fail
   (with_reducible refine(d7c _ (HG.o.bl HB2.o)).mono ?_)
   rintro e w6 ⟨rfl,hb6⟩;go_wp2;go_ret;exact⟨rfl,HB2.o.call hb6⟩
  by_cases h3:8<(a:Int)
  ·clear hover;go_wp2_with fail
   (with_reducible refine(d7k _ _).mono ?_)
   rintro e w' ⟨rfl,rfl⟩;go_wp2_with fail
   (with_reducible refine(d7c _ (HG.o.bl HB2.o)).mono ?_)
   rintro e w6 ⟨rfl,hb6⟩;go_wp2;go_ret;exact⟨rfl,HB2.o.call hb6⟩
  by_cases h4:8<(b:Int)
  ·clear hover;go_wp2_with fail
   (with_reducible refine(d7k _ _).mono ?_)
   rintro e w' ⟨rfl,rfl⟩;go_wp2_with fail
   (with_reducible refine(d7c _ (HG.o.bl HB2.o)).mono ?_)
   rintro e w6 ⟨rfl,hb6⟩;go_wp2;go_ret;exact⟨rfl,HB2.o.call hb6⟩
  exact absurd hover (by omega)
 ·have HPP:d2r s3=(0,qMany (k+1) i a b):=by rw[HP2.o,if_neg hover]
  rw[HPP] at hv⊢;have HV:=aB hv;have HT:Hid (∀W' v,Bl W W'->d5o W' (qMany (k+1) i a b) v->Calls Tryz.prog 14 #[v] W' fun e w'=>e= .returned (.tuple #[S s3,.int .i64 0])/\Bl W' w'):=fun W' v hb hv=>HX.o W' v hover hb hv;have h1:¬32<(k:Int)+1:=(by omega);have h2:¬4<(i:Int):=(by omega);have h3:¬8<(a:Int):=(by omega);have h4:¬8<(b:Int):=(by omega);obtain⟨si,sj,sw,sg,sh,so,rfl,hpp⟩:=hv;obtain⟨ai,ci,aj,cj,aw,cw,ag,cg,ah,ch,ao,co,rfl,rfl,rfl,rfl,rfl,rfl⟩:=hpp.slices;clear hpp HPP HP2 HX hover;generalize qMany (k+1) i a b=q at *;go_wp2_with (refine bA rfl rfl rfl rfl (quC q (.slice ai q.items.length ci) (.slice aj q.joins.length cj) (.slice aw q.wher.args.length cw) (.slice ag q.group.length cg) (.slice ah q.having.args.length ch) (.slice ao q.orders.length co)) HY1.o rfl rfl tC rfl ?_)
  intro w2 hB2 hX2;have HC2:=aB (((Bl.refl w1).alloc (.cells zQL.toArray 37)).but hB2 (aH _));have HB2:=aB (HB1.o.call HC2.o);have HX2:=aB (bT ((hB2.same _ (by omega)).trans ((aW w1 (.cells zQL.toArray 37) hz1).trans HX1.o)) hX2);obtain⟨c0,c1,-,-,-⟩:=aU HX2.o.1;clear hB2 hX2 HY1 HX1 HB1;go_wp2_with (refine wpList_load_row rfl 37 (.tmp 12) rfl w1.heap.size rfl 37 _ (0,0) _ HX2.o.2 Tryz.underlying37 rfl tC ?_)
  go_wp2_with fail;refine(HT.o _ _ HB2.o (HV.o.bl HC2.o)).mono ?_;rintro e w3 ⟨rfl,hb3⟩;have HB3:=aB (HB2.o.call hb3);clear hb3 HX2 c0 c1;go_wp2_with fail
  (with_reducible refine(d7k _ _).mono ?_)
  rintro e w' ⟨rfl,rfl⟩;go_wp2_with fail
  (with_reducible refine(d7k _ _).mono ?_)
  rintro e w' ⟨rfl,rfl⟩;go_wp2_with fail
  (with_reducible refine(d7c _ (HG.o.bl HB3.o)).mono ?_)
  rintro e w6 ⟨rfl,hb6⟩;go_wp2;go_ret;exact⟨rfl,HB3.o.call hb6⟩
theorem qmany_all(i j a b:Int)(W:World)(hG:nD W):Calls Tryz.prog 4 #[.int .i64 i,.int .i64 j,.agg #[.int .i64 a,.int .i64 b]] W (Yes W):=by
 by_cases h:1<=i/\i<=40/\0<=j/\j<=8/\0<=a/\a<=12/\0<=b/\b<=12
 ·obtain⟨n,rfl⟩:∃n:Nat,i=(n:Int)+1:=⟨(i-1).toNat,by omega⟩
  obtain⟨m,rfl⟩:∃m:Nat,j=(m:Int):=⟨j.toNat,by omega⟩
  obtain⟨g,rfl⟩:∃m:Nat,a=(m:Int):=⟨a.toNat,by omega⟩
  obtain⟨o,rfl⟩:∃m:Nat,b=(m:Int):=⟨b.toNat,by omega⟩
  exact qmany_in n m g o (by omega) (by omega) (by omega) (by omega) W hG
 ·exact qmany_out i j a b h W hG
end
end Go.Proofs.YtpcmbndoagafmaaGreatDoor
