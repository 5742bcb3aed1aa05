/- Texts beside the shared ones. -/
import Derived.Test.YtfkekkgfmhcanaaGreatDoorTS
import Derived.Test.YtfkekkgfmhcanaaGreatDoorTA
import Derived.Test.YtfkekkgfmhcanaaGreatDoorTB
import Derived.Test.YtfkekkgfmhcanaaGreatDoorTC
import Derived.Test.YtfkekkgfmhcanaaGreatDoorTD
import Derived.Test.YtfkekkgfmhcanaaGreatDoorTE
import Derived.Test.YtfkekkgfmhcanaaGreatDoorTF
import Derived.Test.YtfkekkgfmhcanaaGreatDoorTG
import Derived.Test.YtfkekkgfmhcanaaGreatDoorTH
import Derived.Test.YtfkekkgfmhcanaaGreatDoorTI
import Derived.Test.YtfkekkgfmhcanaaGreatDoorTJ
import Derived.Lib.Replace
import Derived.Lib.ReplaceLaws
import Derived.Lib.CountLaws
import Derived.Lib.Strings
import GoSem.Core.Utf8
import Derived.Lib.Bytealg
import Derived.Lib.SlTrimSet
import Derived.Laws.Entries
import Derived.Lib.ParseIntB
import Derived.Lib.ItoaMem
import Derived.Lib.ItoaLen
import Derived.Lib.Hide
namespace Go.Proofs.YtfkekkgfmhcanaaGreatDoor
open Go.RowKit
open _root_.Bool renaming and_eq_true->aQ,false_eq_true->fM,not_eq_true'->nT,or_eq_true->jO
open _root_.Go.Lib renaming decDigits->bJ,itoa->dQ
open _root_.List renaming all_eq_true->jA,append_assoc->iK,cons_append->bE,isEmpty_cons->lW,isEmpty_iff->iZ,length->lV,length_append->bD,length_nil->bL,map_cons->kP,map_nil->qZ,mem_cons->dD,mem_of_getElem?->dJ,nil_append->cB
open _root_.Nat renaming add_comm->oJ,le_refl->aH
open _root_.Option renaming bind_eq_some_iff->dG,bind_some->bU,map_eq_some_iff->aT,map_some->lX
open _root_.Or renaming inr->nA
set_option maxRecDepth 100000
section
end
section
end
section
end
section
end
section
variable {parse:List UInt8->Option (Int×Int×List UInt8)}
end
section
variable {parse:List UInt8->Option (Int×Int×List UInt8)}
theorem a3a(N M:Nat):∀(n:Nat) (s:List UInt8),s.length<=n->∀l,toks parse N s=some l->∃l',toks parse M s=some l'/\l'.map Tok.bare=l.map Tok.bare:=by
 intro n
 induction n with
 |zero=>
  intro s hs l h;obtain rfl:s=[]:=(by simpa using hs);rw[pI] at h;injection h with h;subst h;exact⟨[],pI M,rfl⟩
 |succ n ih=>
  intro s hs l h;rw[mH] at h;have hl:=lT false s;split at h
  ·rename_i h0;injection h with h;subst h;exact⟨[],by rw[mH,if_pos h0],rfl⟩
  ·rename_i h0;obtain⟨x,hx,h⟩:=dG.1 h;obtain⟨l1,h1,rfl⟩:=aT.1 h;have hle:=nN hx;obtain⟨l1',h1',e⟩:=ih ((bX false s).drop x.2.1) (by simp;omega) l1 h1;refine⟨⟨x.1,M-(bX false s).length,(bX false s).take x.2.1,x.2.2⟩::l1',?_,by simp[Tok.bare,e]⟩;rw[mH,if_neg h0,hx];simp only[bU];rw[h1'];rfl
end
section
theorem c6d(l:List UInt8):qd (dbl l)=some l:=by
 induction l with
 |nil=>rfl
 |cons c r ih=>
  by_cases hc:c=39
  ·subst hc;simp only[dbl,if_true];rw[a9y,ih];rfl
  ·simp only[dbl,if_neg hc];rw[a3l _ _ hc,ih];rfl
theorem b4e(l:List UInt8):unq (39::(dbl l++[39]))=some l:=by
 rw[<-qQ];unfold lU;rw[(wX _ (dbl l)).2 rfl];exact c6d l
theorem c2a(d:Nat)(h:d<16):hv (hexDigit d)=d:=by
 have:∀m:Fin 16,hv (hexDigit m.val)=m.val:=(by decide);exact this ⟨d,h⟩
theorem c1z(d:Nat)(h:d<16):vE (hexDigit d)=true:=by
 have:∀m:Fin 16,vE (hexDigit m.val)=true:=(by decide);exact this ⟨d,h⟩
theorem a8f{c:UInt8}(h:vE c=true):c≠39:=by
 intro e;subst e;exact absurd h (by decide)
theorem a6a(l:List UInt8):wS (hexOf l):=by
 induction l with
 |nil=>exact⟨rfl,fun c hc=>by simp[hexOf] at hc⟩
 |cons c r ih=>
  have hc:=c.toNat_lt;obtain⟨h1,h2⟩:=ih;have e:hexOf (c::r)=hexDigit (c.toNat / 16)::hexDigit (c.toNat % 16)::hexOf r:=(by simp[hexOf]);rw[e];refine⟨by simp;omega,?_⟩;intro x hx;simp only[dD] at hx;rcases hx with rfl|rfl|hx
  ·exact c1z _ (by omega)
  ·exact c1z _ (by omega)
  ·exact h2 x hx
theorem a7j(l:List UInt8):unhex (hexOf l)=l:=by
 induction l with
 |nil=>rfl
 |cons c r ih=>
  have hc:=c.toNat_lt;have e:hexOf (c::r)=hexDigit (c.toNat / 16)::hexDigit (c.toNat % 16)::hexOf r:=(by simp[hexOf]);rw[e];simp only[unhex];rw[ih,c2a _ (by omega),c2a _ (by omega)];have:(16 * ((c.toNat / 16:Nat):Int)+((c.toNat % 16:Nat):Int)).toNat=c.toNat:=(by omega);rw[this];simp
theorem a8o{l:List UInt8}(h:∀c∈l,c≠39):dbl l=l:=by
 induction l with
 |nil=>rfl
 |cons c r ih=>simp only[dbl,if_neg (h c (by simp))];rw[ih fun x hx=>h x (by simp[hx])]
theorem a5z{n:Int}{c:UInt8}(h:(dQ n)[0]?=some c):c=45\/rQ c:=by
 by_cases hn:n<0
 ·unfold dQ at h;rw[if_pos hn] at h;simp at h;exact Or.inl h.symm
 ·unfold dQ at h;rw[if_neg hn] at h;exact nA (uM _ c (dJ h))
theorem vT{s:List UInt8}(h:s[0]?≠some 110)(h1:s[0]?≠some 102)(h2:s[0]?≠some 116):oH s=none:=
 a2i (fun e=>by subst e;simp at h) (fun e=>by subst e;simp at h1) (fun e=>by subst e;simp at h2)
theorem xZ{s:List UInt8}{c:UInt8}(h:s[0]?=some c)(h1:c≠45)(h2:¬rQ c):jX s=none:=
 vP fun n _ e=>by subst e;rcases a5z h with h'|h'<;>contradiction
theorem a3i{k n:Int}{l:List UInt8}(h:chk k n l=0)(hn:I64 n):mW (lit k n l)=some (k,n,l):=by
 obtain⟨_,hc⟩:=vB h;rcases hc with⟨rfl,rfl,rfl⟩|⟨rfl,rfl,rfl⟩|⟨rfl,rfl,rfl⟩|⟨rfl,rfl⟩|⟨rfl,rfl⟩|⟨rfl,rfl⟩
 ·decide
 ·decide
 ·decide
 ·have e:lit 2 n []=dQ n:=by simp[lit]
  rw[e];refine a5j (vT ?_ ?_ ?_) (a1y hn rfl)<;>intro hh<;>rcases a5z hh with h'|h'<;>revert h'<;>first |decide|(unfold rQ;decide)
 ·have e:lit 3 0 l=39::(dbl l++[39]):=by simp[lit,vS]
  rw[e,xM (vT (by simp) (by simp) (by simp)) (xZ (c:=39) rfl (by decide) (by unfold rQ;decide)),xO (by simp),b4e];rfl
 ·have e:lit 4 0 l=120::(39::(hexOf l++[39])):=by simp[lit,uI]
  have hx:=a6a l;rw[e,xM (vT (by simp) (by simp) (by simp)) (xZ (c:=120) rfl (by decide) (by unfold rQ;decide)),xN]
  conv=>lhs;rw[<-a8o fun c hc=>a8f (hx.2 c hc)]
  rw[b4e];simp only[bU,if_pos hx,a7j];rfl
theorem b5y{k n:Int}{l:List UInt8}(h:chk k n l=0)(hn:I64 n):dF (lit k n l)=(k,n,l,0):=by
 simp[dF,a3i h hn,h]
end
section
end
section
mutual
theorem same_eq:∀x y:Ex,kR x y=true->x=y
 | .mk k v t n o a,.mk k' v' t' n' o' a',h=>by
  simp only[kR,aQ,beq_iff_eq] at h;obtain⟨⟨⟨⟨⟨rfl,rfl⟩,rfl⟩,rfl⟩,rfl⟩,h⟩:=h;rw[a9m a a' h]
theorem a9m:∀l m:List Ex,lQ l m=true->l=m
 |[],[],_=>rfl
 |[],_::_,h=>by simp[lQ] at h
 |_::_,[],h=>by simp[lQ] at h
 |x::r,y::s,h=>by
  simp only[lQ,aQ] at h;rw[same_eq x y h.1,a9m r s h.2]
end
end
section
end
section
theorem c3z{s:List UInt8}{b:List kG}(h:bt s=some b)(N:Nat):∃l,toks fP N s=some l/\l.map Tok.bare=b:=by
 unfold bt at h;obtain⟨l,h1,h2⟩:=aT.1 h;obtain⟨l',h3,h4⟩:=a3a (parse:=fP) 0 N s.length s (aH _) l h1;exact⟨l',h3,h4.trans h2⟩
theorem c6x:bt []=some []:=by unfold bt;rw[pI];rfl
theorem a6q{t r:List UInt8}{k:Int}{v:Int×Int×List UInt8}(hb:Stops iR (t++r))(h2:¬((t++r).head?=some 45/\(t++r)[1]?=some 45))(hc:rU (t++r)=some (k,t.length))(hv:valOf fP k t=some v):
  bt (t++r)=(bt r).map ((k,t,v)::·):=by
 have hs:=sM hb h2;have hl:=a3y hc;have hne:¬(t++r=[]):=(by intro e;have:=congrArg lV e;rw[bD,bL] at this;omega);have ho:rM fP (t++r)=some (k,t.length,v):=by
  unfold rM;rw[hc];simp only[bU,List.take_left,hv,lX]
 unfold bt;rw[mH,hs,if_neg hne,ho];simp only[bU,List.drop_left,List.take_left];cases toks fP 0 r with
 |none=>rfl
 |some l=>simp[Tok.bare]
theorem a5v{c:UInt8}(h:cZ c=true):iR c=false/\c≠45/\c≠39:=by
 have:=qE (q:=fun c=> !(cZ c)||(!(iR c)&&c != 45&&c != 39)) (by decide+kernel) c;simp only[h] at this;simpa[and_assoc] using this
theorem mZ{s r:List UInt8}(hw:Wd s)(he:yL r):bt (s++r)=(bt r).map ((1,s,(0,0,[]))::·):=by
 obtain⟨c,q,rfl,hl,hq,h30⟩:=hw;obtain⟨f1,f2,f3⟩:=a5v hl;refine a6q ?_ ?_ ?_ rfl
 ·intro d hd;simp at hd;subst hd;exact f1
 ·rintro⟨h,_⟩;simp at h;exact f2 h
 ·have hr:=a0a (p:=jP) (t:=q) (y:=r) hq he.1;have hx:¬(c=120/\(q++r).head?=some 39):=by
   rintro⟨_,h⟩;cases q with
   |nil=>exact he.2 (by simpa using h)
   |cons d q=>
    simp at h;have:=hq d (by simp);subst h;exact absurd this (by decide)
  show rU (c::(q++r))=_;rw[jE,if_pos ⟨hl,hx⟩,hr,if_pos (by simpa using h30)];simp
theorem a8u{t r:List UInt8}{c:UInt8}{q:List UInt8}(e:t=c::q)(hc:cZ c=false/\c≠39/\c≠120/\dI c=false/\iR c=false)(h2:¬((t++r).head?=some 45/\(t++r)[1]?=some 45))(hs:yP c (q++r).head?=t.length):
  bt (t++r)=(bt r).map ((3,t,(0,0,[]))::·):=by
 obtain⟨f1,f2,f3,f4,f5⟩:=hc;refine a6q ?_ h2 ?_ rfl
 ·intro d hd;rw[e] at hd;simp at hd;subst hd;exact f5
 ·have hl:t.length=q.length+1:=by rw[e];simp
  rw[e] at hs⊢;show rU (c::(q++r))=_;rw[jE,if_neg (by simp[f1]),if_neg f2,if_neg f3,if_neg (by simp[f4]),hs,if_neg (by simp)]
theorem qF(c:UInt8)(hc:c=40\/c=41\/c=44\/c=46\/c=42)(r:List UInt8):bt (c::r)=(bt r).map ((3,[c],(0,0,[]))::·):=by
 refine a8u (t:=[c]) (r:=r) (q:=[]) rfl ?_ ?_ ?_
 ·rcases hc with rfl|rfl|rfl|rfl|rfl<;>decide
 ·rcases hc with rfl|rfl|rfl|rfl|rfl<;>simp
 ·rcases hc with rfl|rfl|rfl|rfl|rfl<;>simp[yP]
theorem d0f(o:Int)(h:1<=o/\o<=14)(r:List UInt8):bt (bI o++32::r)=(bt r).map (a7z o::·):=by
 rw[<-nZ r];have:o=1\/o=2\/o=3\/o=4\/o=5\/o=6\/o=7\/o=8\/o=9\/o=10\/o=11\/o=12\/o=13\/o=14:=(by omega);have hw:∀s:List UInt8,Wd s->bt (s++32::r)=(bt (32::r)).map ((1,s,(0,0,[]))::·):=fun s hs=>mZ hs (yL.of r (by decide) (by decide));rcases this with rfl|rfl|rfl|rfl|rfl|rfl|rfl|rfl|rfl|rfl|rfl|rfl|rfl|rfl
 case inr.inr.inr.inr.inr.inr.inr.inr.inr.inr.inr.inr.inl=>exact hw _ ⟨97,[110,100],rfl,by decide,by decide,by decide⟩
 case inr.inr.inr.inr.inr.inr.inr.inr.inr.inr.inr.inr.inr=>exact hw _ ⟨111,[114],rfl,by decide,by decide,by decide⟩
 all_goals exact a8u (r:=32::r) rfl (by decide) (by simp[bI]) (by simp[yP,bI])
theorem c6y(r:List UInt8):bt (45::32::r)=(bt r).map ((3,[45],(0,0,[]))::·):=by
 rw[<-nZ r];exact a8u (t:=[45]) (r:=32::r) rfl (by decide) (by simp) (by simp[yP])
theorem a9x(l:List UInt8){r:List UInt8}(hr:r.head?≠some 39):oO (dbl l++39::r)=some ((dbl l).length+1):=by
 induction l with
 |nil=>simp[dbl,uU hr]
 |cons c l ih=>
  unfold dbl;split
  ·simp only[bE,uF,ih];simp
  ·rename_i hc;simp only[bE];rw[oG hc,ih];simp
theorem c6q{c:UInt8}(h:rQ c):dI c=true:=by
 unfold rQ at h;unfold dI;simp only[aQ,decide_eq_true_eq];exact⟨by rw[UInt8.le_iff_toNat_le];exact h.1,by rw[UInt8.le_iff_toNat_le];exact h.2⟩
theorem a8l{c:UInt8}(h:dI c=true):iR c=false/\cZ c=false/\c≠39/\c≠120/\c≠45:=by
 have:=qE (q:=fun c=> !(dI c)||(!(iR c)&& !(cZ c)&&c != 39&&c != 120&&c != 45)) (by decide+kernel) c;simp only[h] at this;simpa[and_assoc] using this
theorem b7o{s r:List UInt8}(hs:s≠[])(hd:∀c∈s,dI c=true)(he:yL r){v:Int×Int×List UInt8}(hv:fP s=some v):bt (s++r)=(bt r).map ((2,s,v)::·):=by
 cases s with
 |nil=>exact absurd rfl hs
 |cons c q=>
  obtain⟨f1,f2,f3,f4,f5⟩:=a8l (hd c (by simp));have hst:Stops dI r:=fun d h=>by
   have:=he.1 d h;unfold jP at this;simp at this;exact this.2
  have hr:=a0a (p:=dI) (t:=q) (y:=r) (fun d h=>hd d (by simp[h])) hst;refine a6q ?_ ?_ ?_ (by unfold valOf;rw[if_pos rfl];exact hv)
  ·intro d h;simp at h;subst h;exact f1
  ·rintro⟨h,_⟩;simp at h;exact f5 h
  ·show rU (c::(q++r))=_;rw[jE,if_neg (by simp[f2]),if_neg f3,if_neg f4,if_pos (by rw[hd c (by simp)]),hr,List.drop_left,if_neg]
   ·simp
   ·cases hh:r.head? with
    |none=>simp
    |some d=>
     have:=he.1 d hh;unfold jP at this;simp at this;simp[this.1]
theorem c6w{k n:Int}{l:List UInt8}(h:chk k n l=0)(hn:I64 n)(h2:k=2->0<=n){r:List UInt8}(he:yL r):bt (lit k n l++r)=(bt r).map (oW (k,n,l)::·):=by
 have hp:fP (lit k n l)=some (k,n,l):=(by unfold fP;rw[b5y h hn];rfl);obtain⟨hl,hc⟩:=vB h;rcases hc with⟨rfl,rfl,rfl⟩|⟨rfl,rfl,rfl⟩|⟨rfl,rfl,rfl⟩|⟨rfl,rfl⟩|⟨rfl,rfl⟩|⟨rfl,rfl⟩
 ·exact mZ ⟨110,[117,108,108],rfl,by decide,by decide,by decide⟩ he
 ·exact mZ ⟨102,[97,108,115,101],rfl,by decide,by decide,by decide⟩ he
 ·exact mZ ⟨116,[114,117,101],rfl,by decide,by decide,by decide⟩ he
 ·have e:lit 2 n []=bJ n.toNat:=by
   have h0:=h2 rfl;unfold lit;rw[if_neg (by decide),if_neg (by decide),if_pos rfl,dQ,if_neg (by omega)]
  have ev:oW (2,n,[])=(2,lit 2 n [],(2,n,[])):=(by unfold oW;rw[if_neg (by simp)]);rw[ev,e];rw[e] at hp;exact b7o (a6m _) (fun c hc=>c6q (uM _ c hc)) he hp
 ·have ev:oW (3,0,l)=(2,lit 3 0 l,(3,0,l)):=by unfold oW;rw[if_neg (by simp)]
  have e:lit 3 0 l=39::(dbl l++[39]):=(by simp[lit,vS]);rw[ev];refine a6q ?_ ?_ ?_ (by unfold valOf;rw[if_pos rfl];exact hp)
  ·rw[e];intro d hd;simp at hd;subst hd;decide
  ·rw[e];rintro⟨h,_⟩;simp at h
  ·rw[e];show rU (39::(dbl l++[39]++r))=_;rw[jE,if_neg (fun h=>absurd h.1 (by decide)),if_pos rfl,iK];rw[show[39]++r=39::r from rfl,a9x l he.2];simp
 ·have ev:oW (4,0,l)=(2,lit 4 0 l,(4,0,l)):=by unfold oW;rw[if_neg (by simp)]
  have e:lit 4 0 l=120::(39::(hexOf l++[39])):=(by simp[lit,uI]);have hx:=a6a l;have hd:=a8o fun c hc=>a8f (hx.2 c hc);rw[ev];refine a6q ?_ ?_ ?_ (by unfold valOf;rw[if_pos rfl];exact hp)
  ·rw[e];intro d hd;simp at hd;subst hd;decide
  ·rw[e];rintro⟨h,_⟩;simp at h
  ·rw[e];show rU (120::(39::(hexOf l++[39]++r)))=_;rw[jE,if_neg (by simp),if_neg (by decide),if_pos rfl,iK];rw[show[39]++r=39::r from rfl,List.drop_one,List.tail_cons];have:=a9x (hexOf l) he.2;rw[hd] at this;rw[this];simp
end
section
theorem a9i(l:List Ex):c5s l=l.map tkE:=by
 induction l with
 |nil=>simp[c5s]
 |cons x r ih=>simp[c5s,ih]
theorem c3j(o:Option (List kG))(a:kG)(b:List kG):(o.map (b++·)).map (a::·)=o.map ((a::b)++·):=by
 cases o<;>simp
theorem c7u(o:Option (List kG))(a:kG):o.map (a::·)=o.map ([a]++·):=by
 cases o<;>simp
theorem a4c:∀(l:List Ex),(∀y∈l,Lx (eY y) (tkE y))->l≠[]->Lx (jR [44,32] (l.map eY)) (lJ (l.map tkE))
 |[],_,h=>absurd rfl h
 |[x],h,_=>h x (by simp)
 |x::y::l,h,_=>by
  intro r hr;have ih:=a4c (y::l) (fun z hz=>h z (by simp[hz])) (by simp) r hr;have e:jR [44,32] ((x::y::l).map eY)++r=eY x++(44::32::(jR [44,32] ((y::l).map eY)++r)):=by
   simp[jR]
  have e2:lJ ((x::y::l).map tkE)=tkE x++(sg 44::lJ ((y::l).map tkE)):=(by simp[lJ]);rw[e,e2,h x (by simp) _ (yL.of _ (by decide) (by decide)),qF 44 (by simp),nZ,ih];rw[show((3,[44],(0,0,[])):kG)=sg 44 from rfl,c3j,d1b]
theorem a4d{f:List UInt8}(hf:Wd f){s:List UInt8}{b:List kG}(h:Lx s b)(r:List UInt8):bt (f++[40]++s++[41]++r)=(bt r).map (wY f b++·):=by
 have e:f++[40]++s++[41]++r=f++(40::(s++(41::r))):=(by simp);rw[e,mZ hf (yL.of _ (by decide) (by decide)),qF 40 (by simp),h _ (yL.of _ (by decide) (by decide)),qF 41 (by simp)];rw[c7u (bt r),d1b,c3j,c3j];rfl
theorem a9j{n:List UInt8}(h:gP.contains n=true):Wd n:=by
 have:n=gX\/n=c1m\/n=c1n\/n=c1o:=(by simpa[gP] using h);rcases this with rfl|rfl|rfl|rfl
 ·exact⟨99,[111,117,110,116],rfl,by decide,by decide,by decide⟩
 ·exact⟨115,[117,109],rfl,by decide,by decide,by decide⟩
 ·exact⟨109,[105,110],rfl,by decide,by decide,by decide⟩
 ·exact⟨109,[97,120],rfl,by decide,by decide,by decide⟩
theorem a0u{x:Ex}(h:eH x=true):a9r x=true/\∀y∈x.args,eH y=true:=by
 cases x with
 |mk k v t n o args=>
  simp only[eH,aQ,vY,jA] at h;exact h
theorem a3r{α:Type}{l:List α}(h:l.length=1):∃a,l=[a]:=by
 match l,h with
 |[a],_=>exact⟨a,rfl⟩
theorem b0g{α:Type}{l:List α}(h:l.length=2):∃a b,l=[a,b]:=by
 match l,h with
 |[a,b],_=>exact⟨a,b,rfl⟩
theorem b4o:∀(m:Nat) (x:Ex),SizeOf.sizeOf x<=m->eH x=true->Fits x->Lx (eY x) (tkE x)
 |0,x,hm,_,_=>by cases x;simp at hm
 |m+1,x,hm,hc,hf=>by
  obtain⟨hr,hca⟩:=a0u hc;have ih:∀y∈x.args,Lx (eY y) (tkE y):=fun y hy=>b4o m y (by have:=b2r hy;omega) (hca y hy) (by
   cases hf with
   |mk _ _ _ _ _ _ _ ha=>exact ha y hy)
  cases hf with
  |mk k v t n o args hi _=>
  simp only[Ex.args] at ih;simp only[eY,tkE,vG,a9i]
  replace hr:dV k v t n o args=true:=hr
  unfold dV at hr;intro r hend;unfold uB b4p;by_cases h1:k=1
  ·rw[if_pos h1] at hr⊢;rw[if_pos h1];simp only[aQ,beq_iff_eq,jO,bne_iff_ne,decide_eq_true_eq] at hr;rw[c6w hr.1.2 hi (fun e=>by rcases hr.2 with h|h;exact absurd e h;exact h) hend,c7u]
  rw[if_neg h1] at hr⊢;rw[if_neg h1];by_cases h2:k=2
  ·rw[if_pos h2] at hr⊢;rw[if_pos h2];simp only[aQ,beq_iff_eq,jO] at hr;have hn:=(rO hr.1.2).1;by_cases ht:t=[]
   ·rw[if_pos ht,if_pos ht,mZ hn hend,c7u];rfl
   ·have htw:=(rO (hr.2.resolve_left ht)).1;rw[if_neg ht,if_neg ht];have e:t++[46]++n++r=t++(46::(n++r)):=(by simp);rw[e,mZ htw (yL.of _ (by decide) (by decide)),qF 46 (by simp),mZ hn hend];generalize bt r=z;cases z<;>simp[sg,wd]
  rw[if_neg h2] at hr⊢;rw[if_neg h2];by_cases h3:k=3
  ·rw[if_pos h3] at hr;simp only[aQ,beq_iff_eq,decide_eq_true_eq] at hr;obtain⟨⟨_,ho⟩,hlen⟩:=hr;have h4:¬k=4:=(by omega);have h5:¬k=5:=(by omega);rw[if_neg h4,if_neg h4,if_neg h5,if_neg h5];by_cases hm2:fJ o=2
   ·rw[if_pos hm2,if_pos hm2];have ho2:1<=o/\o<=14:=(by unfold fJ at hm2;split at hm2;assumption;split at hm2<;>omega);obtain⟨a,b,rfl⟩:=b0g (hlen.trans hm2);have e:mR [(List.map eY [a,b]).getD 0 [],bI o,(List.map eY [a,b]).getD 1 []]++r=40::(eY a++(32::(bI o++32::(eY b++(41::r))))):=by
     simp[mR,jR]
    rw[e,qF 40 (by simp),ih a (by simp) _ (yL.of _ (by decide) (by decide)),nZ,d0f o ho2,ih b (by simp) _ (yL.of _ (by decide) (by decide)),qF 41 (by simp)];generalize bt r=z;cases z<;>simp[sg]
   ·rw[if_neg hm2,if_neg hm2];have ho2:15<=o/\o<=20:=by
     unfold fJ at hm2;split at hm2
     ·exact absurd rfl hm2
     ·omega
    have hm1:fJ o=1:=(by unfold fJ;rw[if_neg (by omega),if_pos (by omega)]);obtain⟨a,rfl⟩:=a3r (hlen.trans hm1);by_cases h19:o=19\/o=20
    ·rw[if_pos h19,if_pos h19];have hw:Wd (bI o):=by
      rcases h19 with rfl|rfl
      ·exact⟨108,[101,110,103,116,104],rfl,by decide,by decide,by decide⟩
      ·exact⟨97,[98,115],rfl,by decide,by decide,by decide⟩
     exact a4d hw (a4c [a] ih (by simp)) r
    ·rw[if_neg h19,if_neg h19];by_cases h17:o=17\/o=18
     ·rw[if_pos h17,if_pos h17];have w1:Wd sIs:=⟨105,[115],rfl,by decide,by decide,by decide⟩
      have w2:Wd gN:=⟨110,[117,108,108],rfl,by decide,by decide,by decide⟩
      have w3:Wd rW:=⟨110,[111,116],rfl,by decide,by decide,by decide⟩
      rcases h17 with rfl|rfl
      ·have e:mR [(List.map eY [a]).getD 0 [],bI 17]++r=40::(eY a++(32::(sIs++(32::(gN++(41::r)))))):=by
        simp[mR,jR,bI,sIs,gN]
       rw[e,qF 40 (by simp),ih a (by simp) _ (yL.of _ (by decide) (by decide)),nZ,mZ w1 (yL.of _ (by decide) (by decide)),nZ,mZ w2 (yL.of _ (by decide) (by decide)),qF 41 (by simp)];generalize bt r=z;cases z<;>simp[sg,wd,wR]
      ·have e:mR [(List.map eY [a]).getD 0 [],bI 18]++r=40::(eY a++(32::(sIs++(32::(rW++(32::(gN++(41::r)))))))):=by
        simp[mR,jR,bI,sIs,gN,rW]
       rw[e,qF 40 (by simp),ih a (by simp) _ (yL.of _ (by decide) (by decide)),nZ,mZ w1 (yL.of _ (by decide) (by decide)),nZ,mZ w3 (yL.of _ (by decide) (by decide)),nZ,mZ w2 (yL.of _ (by decide) (by decide)),qF 41 (by simp)];generalize bt r=z;cases z<;>simp[sg,wd,wR]
     ·rw[if_neg h17,if_neg h17];have h15:o=15\/o=16:=(by omega);have w3:Wd rW:=⟨110,[111,116],rfl,by decide,by decide,by decide⟩
      rcases h15 with rfl|rfl
      ·have e:mR [bI 15,(List.map eY [a]).getD 0 []]++r=40::(45::32::(eY a++(41::r))):=by
        simp[mR,jR,bI]
       rw[e,qF 40 (by simp),c6y,ih a (by simp) _ (yL.of _ (by decide) (by decide)),qF 41 (by simp)];generalize bt r=z;cases z<;>simp[sg,b5u]
      ·have e:mR [bI 16,(List.map eY [a]).getD 0 []]++r=40::(rW++(32::(eY a++(41::r)))):=by
        simp[mR,jR,bI,rW]
       rw[e,qF 40 (by simp),mZ w3 (yL.of _ (by decide) (by decide)),nZ,ih a (by simp) _ (yL.of _ (by decide) (by decide)),qF 41 (by simp)];generalize bt r=z;cases z<;>simp[sg,wd,b5u]
  rw[if_neg h3] at hr;by_cases h4:k=4
  ·rw[if_pos h4] at hr⊢;rw[if_pos h4];have hne:args≠[]:=by
    simp only[aQ,nT,List.isEmpty_eq_false_iff] at hr;exact hr.2
   have hw:Wd bZ:=⟨99,[111,97,108,101,115,99,101],rfl,by decide,by decide,by decide⟩
   exact a4d hw (a4c args ih hne) r
  rw[if_neg h4] at hr⊢;rw[if_neg h4];by_cases h5:k=5
  ·rw[if_pos h5] at hr⊢;rw[if_pos h5];simp only[aQ] at hr;have hw:=a9j hr.1.2;cases args with
   |nil=>
    refine a4d hw (s:=jR [44,32] [[42]]) (b:=[sg 42]) ?_ r;intro r2 _;show bt (42::r2)=_;rw[qF 42 (by simp),c7u];rfl
   |cons a l=>exact a4d hw (a4c (a::l) ih (by simp)) r
  ·rw[if_neg h5] at hr;cases hr
end
section
theorem gZ{ts:List Tok}{k:Nat}{b:kG}{m:List kG}(h:Rest ts k (b::m)){s:List UInt8}(hb:bIs b s=false)(l:List (List UInt8)):bH ts k (s::l)=none:=by
 obtain⟨x,hx,rfl⟩:=h.head;rw[nK hx,b7p,hb,if_neg (by simp)]
theorem wM{ts:List Tok}{k:Nat}{b:kG}{m:List kG}(h:Rest ts k (b::m)):∀(l:List Int),(∀o∈l,bIs b (bI o)=false)->fI ts k l=none
 |[],_=>rfl
 |o::l,ho=>by
  unfold fI;rw[gZ h (ho o (by simp))];exact wM h l fun p hp=>ho p (by simp[hp])
theorem iM{ts:List Tok}{k:Nat}{b:kG}{m:List kG}(h:Rest ts k (b::m))(hm:m≠[])(o:Int):∀(l r:List Int),(∀p∈l,bIs b (bI p)=false)->bIs b (bI o)=true->fI ts k (l++o::r)=some (o,k+1)
 |[],r,_,hb=>by
  show fI ts k (o::r)=_;unfold fI;rw[sK h hm hb];rfl
 |p::l,r,hl,hb=>by
  show fI ts k (p::(l++o::r))=_;unfold fI;rw[gZ h (hl p (by simp))];exact iM h hm o l r (fun q hq=>hl q (by simp[hq])) hb
def a0h(o:Int):Nat:=if o=14 then 0 else if o=13 then 1 else if 7<=o then 3 else if o=6 then 4 else if o<=2 then 5 else 6
def xB(n:Nat)(b:kG):Prop:=(∀o∈dZ n,bIs b (bI o)=false)/\(n=3->bIs b sIs=false)
def a9a(b:kG):Prop:=bIs b rW=false/\bIs b [45]=false/\bIs b [42]=false
theorem b6d{ts:List Tok}{n k d:Nat}{x:Ex}{b:kG}{m:List kG}(hr:Rest ts k (b::m))(hs:∀o∈dZ n,bIs b (bI o)=false):Ev fun f=>dW ts f (.lp n k d x)= .good k x:=
 Ev.step (Ev.of fun f=>by rw[wG,wM hr _ hs])
theorem lift{ts:List Tok}{n k d k2:Nat}{y:Ex}{b:kG}{m:List kG}(hn:n<=6)(h:Ev fun f=>dW ts f (.rd (n+1) k d)= .good k2 y)(hr:Rest ts k2 (b::m))(hs:xB n b)(h2:n=2->bH ts k [rW]=none):
  Ev fun f=>dW ts f (.rd n k d)= .good k2 y:=by
 apply Ev.step;by_cases e2:n=2
 ·subst e2;refine h.mono fun f hf=>?_;rw[a1b,h2 rfl];exact hf
 by_cases e3:n=3
 ·subst e3;refine h.mono fun f hf=>?_;rw[xD];unfold a4k;rw[show dW ts f (.rd 4 k d)= .good k2 y from hf];simp only[Res.bind];rw[wM hr _ hs.1,gZ hr (hs.2 rfl),gZ hr (hs.2 rfl)]
 ·refine(h.and (b6d (n:=n) (d:=d) (x:=y) hr hs.1)).mono fun f hf=>?_;rw[uP _ _ _ _ e2 (by omega) e3,hf.1];exact hf.2
theorem lifts{ts:List Tok}{k d k2:Nat}{y:Ex}{b:kG}{m:List kG}{L:Nat}(hL:L<=7)(h:Ev fun f=>dW ts f (.rd L k d)= .good k2 y)(hr:Rest ts k2 (b::m))(h2:bH ts k [rW]=none\/L<=2):
  ∀(c n:Nat),n+c=L->(∀j,n<=j->j<L->xB j b)->Ev fun f=>dW ts f (.rd n k d)= .good k2 y
 |0,n,e,_=>by
  obtain rfl:n=L:=(by omega);exact h
 |c+1,n,e,hs=>by
  have ih:=lifts hL h hr h2 c (n+1) (by omega) (fun j hj hj2=>hs j (by omega) hj2);refine lift (by omega) ih hr (hs n (aH _) (by omega)) ?_;intro e2;rcases h2 with h2|h2
  ·exact h2
  ·omega
def vL(l:List kG):Prop:=∃c q,l=c::q/\a9a c
theorem kL{dp:Nat}{x:Ex}(h:Alone dp x)(hb:vL (tkE x)){ts:List Tok}{k d n:Nat}{b:kG}{m:List kG}(hn:n<=7)(hr:Rest ts k (tkE x++b::m))(he:c4d b)(hd:d+dp<=60)(hs:∀j,n<=j->j<7->xB j b):
  Ev fun f=>dW ts f (.rd n k d)= .good (k+(tkE x).length) x:=by
 obtain⟨c,q,e,hc⟩:=hb;have hr0:Rest ts k (c::(q++b::m)):=(by rw[e] at hr;exact hr);have h7:Ev fun f=>dW ts f (.rd 7 k d)= .good (k+(tkE x).length) x:=by
  apply Ev.step;refine(h ts k d b m hr he hd).mono fun f hf=>?_;rw[a1a,gZ hr0 hc.2.1];exact hf
 exact lifts (aH 7) h7 hr.app (.inl (gZ hr0 hc.1 _)) (7-n) n (by omega) hs
theorem fourteen{o:Int}(h:1<=o/\o<=14):o=1\/o=2\/o=3\/o=4\/o=5\/o=6\/o=7\/o=8\/o=9\/o=10\/o=11\/o=12\/o=13\/o=14:=by omega
theorem b8x{ts:List Tok}{k:Nat}{m:List kG}{o:Int}(ho:1<=o/\o<=14)(h:Rest ts k (a7z o::m))(hm:m≠[]):fI ts k (dZ (a0h o))=some (o,k+1):=by
 rcases fourteen ho with rfl|rfl|rfl|rfl|rfl|rfl|rfl|rfl|rfl|rfl|rfl|rfl|rfl|rfl
 ·exact iM h hm 1 [] [2] (by decide) (by decide)
 ·exact iM h hm 2 [1] [] (by decide) (by decide)
 ·exact iM h hm 3 [] [4,5] (by decide) (by decide)
 ·exact iM h hm 4 [3] [5] (by decide) (by decide)
 ·exact iM h hm 5 [3,4] [] (by decide) (by decide)
 ·exact iM h hm 6 [] [] (by decide) (by decide)
 ·exact iM h hm 7 [] [8,9,10,11,12] (by decide) (by decide)
 ·exact iM h hm 8 [7] [9,10,11,12] (by decide) (by decide)
 ·exact iM h hm 9 [7,8] [10,11,12] (by decide) (by decide)
 ·exact iM h hm 10 [7,8,9] [11,12] (by decide) (by decide)
 ·exact iM h hm 11 [7,8,9,10] [12] (by decide) (by decide)
 ·exact iM h hm 12 [7,8,9,10,11] [] (by decide) (by decide)
 ·exact iM h hm 13 [] [] (by decide) (by decide)
 ·exact iM h hm 14 [] [] (by decide) (by decide)
def c5v(j:Nat)(b:kG):Bool:=(dZ j).all (fun o=> !bIs b (bI o))&&(j != 3|| !bIs b sIs)
theorem zR{j:Nat}{b:kG}(h:c5v j b=true):xB j b:=by
 unfold c5v at h;simp only[aQ,jA,nT,jO,bne_iff_ne] at h;exact⟨h.1,fun e=>by rcases h.2 with h|h;exact absurd e h;exact h⟩
theorem seven{j:Nat}(h:j<7):j=0\/j=1\/j=2\/j=3\/j=4\/j=5\/j=6:=by omega
theorem b9t{o:Int}(ho:1<=o/\o<=14):c4d (a7z o)/\a0h o<=6/\a0h o≠2/\∀j,a0h o+1<=j->j<7->xB j (a7z o):=by
 rcases fourteen ho with rfl|rfl|rfl|rfl|rfl|rfl|rfl|rfl|rfl|rfl|rfl|rfl|rfl|rfl
 all_goals
  refine⟨⟨by decide,by decide⟩,by decide,by decide,?_⟩;intro j hj h7;rcases seven h7 with rfl|rfl|rfl|rfl|rfl|rfl|rfl<;>first |exact zR (by decide)|exact absurd hj (by decide)
theorem jL(j:Nat)(h:j<7):xB j (sg 41):=by
 rcases seven h with rfl|rfl|rfl|rfl|rfl|rfl|rfl<;>exact zR (by decide)
theorem a8t(j:Nat)(h:j<7):xB j (sg 44):=by
 rcases seven h with rfl|rfl|rfl|rfl|rfl|rfl|rfl<;>exact zR (by decide)
theorem b9n{da dc:Nat}{a c:Ex}(hA:Alone da a)(hC:Alone dc c)(bA:vL (tkE a))(bC:vL (tkE c)){o:Int}(ho:1<=o/\o<=14){ts:List Tok}{k d:Nat}{m:List kG}(hd:d+da<=60)(hd2:d+dc<=60)
  (hr:Rest ts k (tkE a++a7z o::(tkE c++sg 41::m))):Ev fun f=>dW ts f (.rd 0 k d)= .good (k+(tkE a).length+1+(tkE c).length) (opE o [a,c]):=by
 obtain⟨hN,hL,hL2,hS⟩:=b9t ho;have h1:=kL hA bA (n:=a0h o+1) (by omega) hr hN hd hS;have hr2:=hr.app;have ht:=b8x ho hr2 (by simp);have hr3:=hr2.tail;have h2:=kL hC bC (n:=a0h o+1) (by omega) hr3 ⟨by decide,by decide⟩ hd2 (fun j _ hj=>jL j hj);have hr4:=hr3.app;have hfirst:bH ts k [rW]=none:=by
  obtain⟨x,q,e,hx⟩:=bA;rw[e] at hr;exact gZ hr hx.1 _
 have hL':Ev fun f=>dW ts f (.rd (a0h o) k d)= .good (k+(tkE a).length+1+(tkE c).length) (opE o [a,c]):=by
  apply Ev.step;by_cases e3:a0h o=3
  ·rw[e3] at h1 h2 ht⊢;refine(h1.and h2).mono fun f hf=>?_;rw[xD];unfold a4k;rw[show dW ts f (.rd 4 k d)=_ from hf.1];simp only[Res.bind];rw[ht];simp only;rw[show dW ts f (.rd 4 _ d)=_ from hf.2]
  ·have h3:=b6d (n:=a0h o) (d:=d) (x:=opE o [a,c]) hr4 (jL _ (by omega)).1;have h4:Ev fun f=>dW ts f (.lp (a0h o) (k+(tkE a).length) d a)= .good (k+(tkE a).length+1+(tkE c).length) (opE o [a,c]):=by
    apply Ev.step;refine(h2.and h3).mono fun f hf=>?_;rw[wG,ht];simp only;rw[hf.1];exact hf.2
   refine(h1.and h4).mono fun f hf=>?_;rw[uP _ _ _ _ hL2 (by omega) e3,hf.1];exact hf.2
 exact lifts (by omega) hL' hr4 (.inl hfirst) (a0h o) 0 (by omega) (fun j _ hj=>jL j (by omega))
theorem paren{ts:List Tok}{k d k2:Nat}{y:Ex}{m:List kG}{b:kG}(h0:∃q,Rest ts k (sg 40::q)/\q≠[])(hd:d<60)(h:Ev fun f=>dW ts f (.rd 0 (k+1) (d+1))= .good k2 y)(hr:Rest ts k2 (sg 41::b::m)):
  Ev fun f=>kV ts (dW ts f) k d= .good (k2+1) y:=by
 obtain⟨q,hq,hne⟩:=h0;obtain⟨x,hx,hb⟩:=hq.head;have hk:x.k=3:=congrArg Prod.fst hb;refine h.mono fun f hf=>?_;unfold kV;rw[hx];simp only;rw[if_neg (by omega)];have hc:fZ ts k [(kE,0),(nW,1),(gN,2)]=none:=by
  unfold fZ;rw[gZ hq (by decide)];unfold fZ;rw[gZ hq (by decide)];unfold fZ;rw[gZ hq (by decide)];rfl
 rw[hc];simp only;rw[take_one hq hne (by decide)];simp only;rw[hf];unfold fB;rw[if_pos hd];simp only[Res.bind];rw[take_one hr (by simp) (by decide)]
end
section
mutual
def rY:Ex->Nat
 | .mk _ _ _ _ o args=>(if args.isEmpty then 0 else 1)+nV args+(if o=16\/o=15 then 1 else 0)
def nV:List Ex->Nat
 |[]=>0
 |x::r=>max (rY x) (nV r)
end
theorem xR:∀{l:List Ex} {y:Ex},y∈l->rY y<=nV l
 |x::l,y,h=>by
  simp only[nV];rcases dD.1 h with rfl|h
  ·omega
  ·have:=xR h;omega
structure a6u(f:List UInt8):Prop where
 word:Wd f
 kw:kwB f=false
theorem a3o{f:List UInt8}(h:a6u f)(c:UInt8)(hc:cZ c=false):(f==[c])=false:=by
 obtain⟨d,r,e,hl,_,_⟩:=h.word;rw[e];cases hq:(d::r==[c])
 ·rfl
 ·have:=eq_of_beq hq;injection this with h1 _;rw[h1,hc] at hl;cases hl
theorem b9y{f s:List UInt8}(h:kwB f=false)(hs:kwB s=true):(f==s)=false:=by
 cases hq:(f==s)
 ·rfl
 ·have:=eq_of_beq hq;rw[this,hs] at h;cases h
theorem rP{f:List UInt8}(h:a6u f):a9a (wd f):=by
 refine⟨?_,?_,?_⟩
 ·show(true&&(f==rW))=false;rw[b9y h.kw (by rfl)];rfl
 ·show(true&&(f==[45]))=false;rw[a3o h 45 (by decide)];rfl
 ·show(true&&(f==[42]))=false;rw[a3o h 42 (by decide)];rfl
theorem b3d{ts:List Tok}{k:Nat}{b:kG}{m:List kG}(h:Rest ts k (b::m))(h1:bIs b kE=false)(h2:bIs b nW=false)(h3:bIs b gN=false):fZ ts k [(kE,0),(nW,1),(gN,2)]=none:=by
 unfold fZ;rw[gZ h h1];unfold fZ;rw[gZ h h2];unfold fZ;rw[gZ h h3];rfl
theorem vC{ts:List Tok}{run:Job->Res}{k d:Nat}{f:List UInt8}{m:List kG}(hf:a6u f)(h:Rest ts k (wd f::m))(hm:m≠[]):
    kV ts run k d=match bH ts (k+1) [[40]] with
            |some k2=>iW ts run f k2 d
            |none=>match bH ts (k+1) [[46]] with
              |some k2=>match mM ts k2 with
                |none=> .bad 261
                |some (c,k3)=> .good k3 (b3w f c)
              |none=> .good (k+1) (b3w [] f):=by
  obtain⟨x,hx,hb⟩:=h.head;have hk:x.k=1:=congrArg Prod.fst hb;have ht:x.t=f:=congrArg (fun b:kG=>b.2.1) hb;have hc:=b3d h (by show(true&&(f==kE))=false;rw[b9y hf.kw (by rfl)];rfl) (by show(true&&(f==nW))=false;rw[b9y hf.kw (by rfl)];rfl) (by show(true&&(f==gN))=false;rw[b9y hf.kw (by rfl)];rfl);have hn:mM ts k=some (f,k+1):=by
    unfold mM;rw[hx];simp only;rw[if_pos (by unfold fH;rw[hk,ht,hf.kw];rfl),ht,h.next hm]
  unfold kV;rw[hx];simp only;rw[if_neg (by omega),hc];simp only;rw[gZ h (by show(true&&(f==[40]))=false;rw[a3o hf 40 (by decide)];rfl),hn]
  try rfl
theorem b0x{nm:List UInt8}{d dp:Nat}(hd:d<60)(hdp:d+1+dp<=60):∀(l:List Ex) (ts:List Tok) (k:Nat) (acc:List Ex) (m:List kG),l≠[]->(∀y∈l,Alone dp y/\vL (tkE y))->(nm=bZ\/l.length=1)->m≠[]->
  Rest ts k (lJ (l.map tkE)++sg 41::m)->Ev fun f=>dW ts f (.args nm k d acc)= .good (k+(lJ (l.map tkE)).length+1) (qO nm (acc++l))
 |[],_,_,_,_,h,_,_,_,_=>absurd rfl h
 |[x],ts,k,acc,m,_,hl,_,hm,hr=>by
  obtain⟨hA,hB⟩:=hl x (by simp);have hr1:Rest ts k (tkE x++sg 41::m):=hr;have h1:=kL hA hB (n:=0) (d:=d+1) (by omega) hr1 ⟨by decide,by decide⟩ (by omega) (fun j _ hj=>jL j hj);have hr2:=hr1.app;apply Ev.step;refine h1.mono fun f hf=>?_;rw[sF,hf];unfold fB;rw[if_pos hd];simp only[Res.bind];have e:(if nm=bZ then bH ts (k+(tkE x).length) [[44]] else none)=none:=by
   split
   ·exact gZ hr2 (by decide) _
   ·rfl
  rw[e];simp only;rw[take_one hr2 hm (by decide)];rfl
 |x::y::l,ts,k,acc,m,_,hl,hone,hm,hr=>by
  obtain⟨hA,hB⟩:=hl x (by simp);have hco:nm=bZ:=by
   rcases hone with h|h
   ·exact h
   ·simp at h
  have ej:lJ ((x::y::l).map tkE)=tkE x++sg 44::lJ ((y::l).map tkE):=(by simp[lJ]);have hr1:Rest ts k (tkE x++sg 44::(lJ ((y::l).map tkE)++sg 41::m)):=(by rw[ej] at hr;simpa using hr);have h1:=kL hA hB (n:=0) (d:=d+1) (by omega) hr1 ⟨by decide,by decide⟩ (by omega) (fun j _ hj=>a8t j hj);have hr2:=hr1.app;have hr3:=hr2.tail;have ih:=b0x hd hdp (y::l) ts (k+(tkE x).length+1) (acc++[x]) m (by simp) (fun z hz=>hl z (by simp[hz])) (.inl hco) hm hr3;apply Ev.step;refine(h1.and ih).mono fun f hf=>?_;rw[sF,hf.1];unfold fB;rw[if_pos hd];simp only[Res.bind];rw[if_pos hco,take_one hr2 (by simp) (by decide)];simp only;rw[hf.2,ej];simp[Nat.add_assoc,oJ,Nat.add_left_comm]
theorem a4b{f:List UInt8}(hf:a6u f)(hk:tO f=true){d dp:Nat}{l:List Ex}(hne:l≠[])(hl:∀y∈l,Alone dp y/\vL (tkE y))(hone:f=bZ\/l.length=1){ts:List Tok}{k:Nat}{b:kG}{m:List kG}(hd:d+1+dp<=60)
  (hr:Rest ts k (wY f (lJ (l.map tkE))++b::m)):Ev fun g=>kV ts (dW ts g) k d= .good (k+(wY f (lJ (l.map tkE))).length) (qO f l):=by
 have hr1:Rest ts k (wd f::sg 40::(lJ (l.map tkE)++sg 41::b::m)):=(by simpa[wY] using hr);have hr2:=hr1.tail;have hr3:=hr2.tail;have h1:=b0x (nm:=f) (d:=d) (by omega) hd l ts (k+1+1) [] (b::m) hne hl hone (by simp) hr3;have hnostar:f=gX->bH ts (k+1+1) [[42],[41]]=none:=fun _=>by
  cases l with
  |nil=>exact absurd rfl hne
  |cons x r=>
   obtain⟨c,q,e,hc⟩:=(hl x (by simp)).2;cases r with
   |nil=>
    have:Rest ts (k+1+1) (c::(q++sg 41::b::m)):=by
     have:=hr3;simp only[kP,qZ,lJ,e] at this;exact this
    exact gZ this hc.2.2 _
   |cons y r=>
    have:Rest ts (k+1+1) (c::(q++sg 44::lJ ((y::r).map tkE)++sg 41::b::m)):=by
     have:=hr3;simp only[kP,lJ,e] at this;simpa using this
    exact gZ this hc.2.2 _
 refine h1.mono fun g hg=>?_;rw[vC hf hr1 (by simp),take_one hr2 (by simp) (by decide)];simp only;unfold iW;rw[if_neg (by rw[hk];simp)];have e:(k+1+1+(lJ (l.map tkE)).length+1)=k+(wY f (lJ (l.map tkE))).length:=(by simp[wY];omega);rw[e,cB] at hg;split
 ·rw[hnostar (by assumption)];exact hg
 ·exact hg
theorem b4s{n:List UInt8}(h:gP.contains n=true):a6u n/\tO n=true:=by
 have:n=gX\/n=c1m\/n=c1n\/n=c1o:=(by simpa[gP] using h);refine⟨⟨a9j h,?_⟩,?_⟩
 ·rcases this with rfl|rfl|rfl|rfl<;>rfl
 ·unfold tO;rw[h];simp
theorem b9o{da:Nat}{a:Ex}(hA:Alone da a)(bA:vL (tkE a)){ts:List Tok}{k d:Nat}{m:List kG}(hd:d+1+da<=60)(hr:Rest ts k (wd rW::(tkE a++sg 41::m))):
  Ev fun f=>dW ts f (.rd 0 k d)= .good (k+1+(tkE a).length) (opE 16 [a]):=by
 have hr2:=hr.tail;have h1:=kL hA bA (n:=2) (d:=d+1) (by omega) hr2 ⟨by decide,by decide⟩ hd (fun j _ hj=>jL j hj);have h2:Ev fun f=>dW ts f (.rd 2 k d)= .good (k+1+(tkE a).length) (opE 16 [a]):=by
  apply Ev.step;refine h1.mono fun f hf=>?_;rw[a1b,take_one hr (by simp) (by decide)];simp only;rw[hf];unfold fB;rw[if_pos (by omega)];rfl
 exact lifts (by omega) h2 hr2.app (.inr (aH 2)) 2 0 rfl (fun j _ hj=>jL j (by omega))
theorem b9p{da:Nat}{a:Ex}(hA:Alone da a)(bA:vL (tkE a)){ts:List Tok}{k d:Nat}{m:List kG}(hd:d+1+da<=60)(hr:Rest ts k (sg 45::(tkE a++sg 41::m))):
  Ev fun f=>dW ts f (.rd 0 k d)= .good (k+1+(tkE a).length) (opE 15 [a]):=by
 have hr2:=hr.tail;have h1:=kL hA bA (n:=7) (d:=d+1) (by omega) hr2 ⟨by decide,by decide⟩ hd (fun j _ hj=>jL j hj);have h2:Ev fun f=>dW ts f (.rd 7 k d)= .good (k+1+(tkE a).length) (opE 15 [a]):=by
  apply Ev.step;refine h1.mono fun f hf=>?_;rw[a1a,take_one hr (by simp) (by decide)];simp only;rw[hf];unfold fB;rw[if_pos (by omega)];rfl
 exact lifts (by omega) h2 hr2.app (.inl (gZ hr (by decide) _)) 7 0 rfl (fun j _ hj=>jL j (by omega))
theorem b0k(j:Nat)(h4:4<=j)(h:j<7):xB j (wd sIs):=by
 rcases seven h with rfl|rfl|rfl|rfl|rfl|rfl|rfl<;>first |exact zR (by decide)|exact absurd h4 (by decide)
theorem b5l{da:Nat}{a:Ex}(hA:Alone da a)(bA:vL (tkE a)){o:Int}(ho:o=17\/o=18){ts:List Tok}{k d:Nat}{m:List kG}(hd:d+da<=60)(hr:Rest ts k (tkE a++(wR o++sg 41::m))):
  Ev fun f=>dW ts f (.rd 0 k d)= .good (k+(tkE a).length+(wR o).length) (opE o [a]):=by
 have hfirst:bH ts k [rW]=none:=by
  obtain⟨x,q,e,hx⟩:=bA;rw[e] at hr;exact gZ hr hx.1 _
 have hend:=hr.app.app;rcases ho with rfl|rfl
 ·have hr1:Rest ts k (tkE a++wd sIs::wd gN::sg 41::m):=by simpa[wR] using hr
  have h1:=kL hA bA (n:=4) (by omega) hr1 ⟨by decide,by decide⟩ hd (fun j h4 hj=>b0k j h4 hj);have hr2:=hr1.app;have hr3:=hr2.tail;have h2:Ev fun f=>dW ts f (.rd 3 k d)= .good (k+(tkE a).length+2) (opE 17 [a]):=by
   apply Ev.step;refine h1.mono fun f hf=>?_;rw[xD];unfold a4k;rw[hf];simp only[Res.bind];rw[wM hr2 _ (by decide)];simp only;rw[sK hr2 (by simp) (by decide),take_one hr3 (by simp) (by decide)]
  exact lifts (by omega) h2 hend (.inl hfirst) 3 0 rfl (fun j _ hj=>jL j (by omega))
 ·have hr1:Rest ts k (tkE a++wd sIs::wd rW::wd gN::sg 41::m):=by simpa[wR] using hr
  have h1:=kL hA bA (n:=4) (by omega) hr1 ⟨by decide,by decide⟩ hd (fun j h4 hj=>b0k j h4 hj);have hr2:=hr1.app;have hr3:=hr2.tail;have hr4:=hr3.tail;have h2:Ev fun f=>dW ts f (.rd 3 k d)= .good (k+(tkE a).length+3) (opE 18 [a]):=by
   apply Ev.step;refine h1.mono fun f hf=>?_;rw[xD];unfold a4k;rw[hf];simp only[Res.bind];rw[wM hr2 _ (by decide)];simp only;rw[sK hr2 (by simp) (by decide),gZ hr3 (by decide)];simp only;rw[sK hr2 (by simp) (by decide),sK hr3 (by simp) (by decide),take_one hr4 (by simp) (by decide)]
  exact lifts (by omega) h2 hend (.inl hfirst) 3 0 rfl (fun j _ hj=>jL j (by omega))
theorem b7r{v:Int×Int×List UInt8}(h:chk v.1 v.2.1 v.2.2=0){ts:List Tok}{run:Job->Res}{k d:Nat}{b:kG}{m:List kG}(hr:Rest ts k (oW v::b::m)):kV ts run k d= .good (k+1) (b3v v):=by
 obtain⟨x,hx,hb⟩:=hr.head;obtain⟨v1,v2,v3⟩:=v;simp only at h;unfold kV;rw[hx];simp only;by_cases h01:v1=0\/v1=1
 ·have hv:oW (v1,v2,v3)=(1,lit v1 v2 v3,(0,0,[])):=by unfold oW;rw[if_pos h01]
  have hk:x.k=1:=(by have:=congrArg Prod.fst hb;rw[hv] at this;exact this);rw[if_neg (by omega)];obtain⟨_,hc⟩:=vB h;rcases hc with⟨rfl,rfl,rfl⟩|⟨rfl,rfl,rfl⟩|⟨rfl,rfl,rfl⟩|⟨rfl,rfl⟩|⟨rfl,rfl⟩|⟨rfl,rfl⟩
  ·have:fZ ts k [(kE,0),(nW,1),(gN,2)]=some (k+1,2):=by
    unfold fZ;rw[gZ hr (by decide)];unfold fZ;rw[gZ hr (by decide)];unfold fZ;rw[take_one hr (by simp) (by decide)]
   rw[this];rfl
  ·have:fZ ts k [(kE,0),(nW,1),(gN,2)]=some (k+1,0):=by
    unfold fZ;rw[take_one hr (by simp) (by decide)]
   rw[this];rfl
  ·have:fZ ts k [(kE,0),(nW,1),(gN,2)]=some (k+1,1):=by
    unfold fZ;rw[gZ hr (by decide)];unfold fZ;rw[take_one hr (by simp) (by decide)]
   rw[this];rfl
  ·omega
  ·omega
  ·omega
 ·have hv:oW (v1,v2,v3)=(2,lit v1 v2 v3,(v1,v2,v3)):=by unfold oW;rw[if_neg h01]
  have hk:x.k=2:=(by have:=congrArg Prod.fst hb;rw[hv] at this;exact this);have hxv:x.v=(v1,v2,v3):=(by have:=congrArg (fun b:kG=>b.2.2) hb;rw[hv] at this;exact this);rw[if_pos hk,hr.next (by simp),hxv]
theorem b4c{v:Int×Int×List UInt8}(h:chk v.1 v.2.1 v.2.2=0):a9a (oW v):=by
 obtain⟨v1,v2,v3⟩:=v;by_cases h01:v1=0\/v1=1
 ·obtain⟨_,hc⟩:=vB h;rcases hc with⟨rfl,rfl,rfl⟩|⟨rfl,rfl,rfl⟩|⟨rfl,rfl,rfl⟩|⟨rfl,rfl⟩|⟨rfl,rfl⟩|⟨rfl,rfl⟩
  ·exact⟨by decide,by decide,by decide⟩
  ·exact⟨by decide,by decide,by decide⟩
  ·exact⟨by decide,by decide,by decide⟩
  ·omega
  ·omega
  ·omega
 ·have hv:oW (v1,v2,v3)=(2,lit v1 v2 v3,(v1,v2,v3)):=by unfold oW;rw[if_neg h01]
  rw[hv];exact⟨rfl,rfl,rfl⟩
end
section
theorem b0e{s:List UInt8}(h:mO s=true):a6u s:=⟨(rO h).1,(rO h).2⟩
theorem a6s:∀(n:Nat) (x:Ex),SizeOf.sizeOf x<=n->eH x=true->Alone (rY x) x/\vL (tkE x)
 |0,x,hm,_=>by cases x;simp at hm
 |n+1,x,hm,hc=>by
  obtain⟨hr,hca⟩:=a0u hc;have ih:∀y∈x.args,Alone (rY y) y/\vL (tkE y):=fun y hy=>a6s n y (by have:=b2r hy;omega) (hca y hy);obtain⟨k,v,t,nm,o,args⟩:=x;simp only[Ex.args] at ih;clear hca hc hm
  replace hr:dV k v t nm o args=true:=hr
  unfold dV at hr;simp only[tkE,a9i,rY,Alone];unfold b4p;by_cases h1:k=1
  ·rw[if_pos h1] at hr⊢;simp only[aQ,beq_iff_eq,iZ] at hr;obtain⟨⟨⟨⟨⟨rfl,rfl⟩,rfl⟩,rfl⟩,hv⟩,_⟩:=hr;subst h1;refine⟨fun ts q d b m hrest he hd=>Ev.of fun f=>?_,⟨_,[],rfl,b4c hv⟩⟩;rw[b7r hv hrest];rfl
  rw[if_neg h1] at hr⊢;by_cases h2:k=2
  ·rw[if_pos h2] at hr⊢;simp only[aQ,beq_iff_eq,iZ,jO] at hr;obtain⟨⟨⟨⟨rfl,rfl⟩,rfl⟩,hn⟩,ht⟩:=hr;subst h2;have hN:=b0e hn;by_cases h0:t=[]
   ·subst h0;rw[if_pos rfl];refine⟨fun ts q d b m hrest he hd=>Ev.of fun f=>?_,⟨_,[],rfl,rP hN⟩⟩;have h2:Rest ts q (wd nm::b::m):=hrest;rw[vC hN h2 (by simp),gZ h2.tail he.1];simp only;rw[gZ h2.tail he.2];rfl
   ·have hT:=b0e (ht.resolve_left h0);rw[if_neg h0];refine⟨fun ts q d b m hrest he hd=>Ev.of fun f=>?_,⟨_,_,rfl,rP hT⟩⟩;have h2:Rest ts q (wd t::sg 46::wd nm::b::m):=hrest;have h3:=h2.tail;have h4:=h3.tail;have hnk:mM ts (q+1+1)=some (nm,q+1+1+1):=by
     obtain⟨x,hx,hb⟩:=h4.head;have hk:x.k=1:=congrArg Prod.fst hb;have htx:x.t=nm:=congrArg (fun b:kG=>b.2.1) hb;unfold mM;rw[hx];simp only;rw[if_pos (by unfold fH;rw[hk,htx,hN.kw];rfl),htx,h4.next (by simp)]
    rw[vC hT h2 (by simp),gZ h3 (by decide)];simp only;rw[take_one h3 (by simp) (by decide)];simp only;rw[hnk];rfl
  rw[if_neg h2] at hr⊢;by_cases h3:k=3
  ·rw[if_pos h3] at hr;simp only[aQ,beq_iff_eq,decide_eq_true_eq] at hr;obtain⟨⟨⟨⟨rfl,rfl⟩,rfl⟩,ho⟩,hlen⟩:=hr;subst h3;rw[if_neg (by decide),if_neg (by decide)];by_cases hm2:fJ o=2
   ·rw[if_pos hm2];have ho2:1<=o/\o<=14:=(by unfold fJ at hm2;split at hm2;assumption;split at hm2<;>omega);obtain⟨a,c,rfl⟩:=b0g (hlen.trans hm2);obtain⟨hA,bA⟩:=ih a (by simp);obtain⟨hC,bC⟩:=ih c (by simp);refine⟨fun ts q d b m hrest he hd=>?_,⟨_,_,rfl,⟨by decide,by decide,by decide⟩⟩⟩;have hda:rY a<=nV [a,c]:=xR (by simp);have hdc:rY c<=nV [a,c]:=xR (by simp);simp only[lW,fM,if_false] at hd;have h2:Rest ts q (sg 40::(tkE a++a7z o::(tkE c++sg 41::b::m))):=(by simpa using hrest);have h3:=h2.tail;have hin:=b9n hA hC bA bC ho2 (d:=d+1) (by omega) (by omega) h3;have hlast:Rest ts (q+1+(tkE a).length+1+(tkE c).length) (sg 41::b::m):=h3.app.tail.app;have:=paren ⟨_,h2,by simp⟩ (by omega) hin hlast;refine this.mono fun f hf=>?_;rw[hf];simp[opE];omega
   ·rw[if_neg hm2];have ho2:15<=o/\o<=20:=by
     unfold fJ at hm2;split at hm2
     ·exact absurd rfl hm2
     ·omega
    have hm1:fJ o=1:=(by unfold fJ;rw[if_neg (by omega),if_pos (by omega)]);obtain⟨a,rfl⟩:=a3r (hlen.trans hm1);obtain⟨hA,bA⟩:=ih a (by simp);have hda:rY a<=nV [a]:=xR (by simp);by_cases h19:o=19\/o=20
    ·rw[if_pos h19];have hN:a6u (bI o)/\tO (bI o)=true/\qO (bI o) [a]=opE o [a]:=by
      rcases h19 with rfl|rfl
      ·exact⟨⟨⟨108,[101,110,103,116,104],rfl,by decide,by decide,by decide⟩,rfl⟩,by decide,rfl⟩
      ·exact⟨⟨⟨97,[98,115],rfl,by decide,by decide,by decide⟩,rfl⟩,by decide,rfl⟩
     refine⟨fun ts q d b m hrest he hd=>?_,⟨_,_,rfl,rP hN.1⟩⟩;simp only[lW,fM,if_false] at hd;have:=a4b hN.1 hN.2.1 (d:=d) (dp:=rY a) (l:=[a]) (by simp) (fun y hy=>by simp at hy;subst hy;exact⟨hA,bA⟩) (.inr rfl) (by omega) hrest;refine this.mono fun f hf=>?_;rw[hf,hN.2.2];rfl
    ·rw[if_neg h19];by_cases h17:o=17\/o=18
     ·rw[if_pos h17];refine⟨fun ts q d b m hrest he hd=>?_,⟨_,_,rfl,⟨by decide,by decide,by decide⟩⟩⟩;simp only[lW,fM,if_false] at hd;have h2:Rest ts q (sg 40::(tkE a++(wR o++sg 41::b::m))):=(by simpa using hrest);have h3:=h2.tail;have hin:=b5l hA bA h17 (d:=d+1) (by omega) h3;have:=paren ⟨_,h2,by cases tkE a<;>simp[wR]<;>split<;>simp⟩ (by omega) hin h3.app.app;refine this.mono fun f hf=>?_;rw[hf];simp[opE];omega
     ·rw[if_neg h17];have h15:o=15\/o=16:=(by omega);refine⟨fun ts q d b m hrest he hd=>?_,⟨_,_,rfl,⟨by decide,by decide,by decide⟩⟩⟩;rw[if_pos (by omega:o=16\/o=15)] at hd;simp only[lW,fM,if_false] at hd;rcases h15 with rfl|rfl
      ·have h2:Rest ts q (sg 40::sg 45::(tkE a++sg 41::b::m)):=by simpa[b5u] using hrest
       have h3:=h2.tail;have hin:=b9p hA bA (d:=d+1) (by omega) h3;have:=paren ⟨_,h2,by simp⟩ (by omega) hin h3.tail.app;refine this.mono fun f hf=>?_;rw[hf];simp[opE];omega
      ·have h2:Rest ts q (sg 40::wd rW::(tkE a++sg 41::b::m)):=by simpa[b5u] using hrest
       have h3:=h2.tail;have hin:=b9o hA bA (d:=d+1) (by omega) h3;have:=paren ⟨_,h2,by simp⟩ (by omega) hin h3.tail.app;refine this.mono fun f hf=>?_;rw[hf];simp[opE];omega
  rw[if_neg h3] at hr;by_cases h4:k=4
  ·rw[if_pos h4] at hr⊢;simp only[aQ,beq_iff_eq,nT,List.isEmpty_eq_false_iff] at hr;obtain⟨⟨⟨⟨rfl,rfl⟩,rfl⟩,rfl⟩,hne⟩:=hr;subst h4;have hN:a6u bZ:=⟨⟨99,[111,97,108,101,115,99,101],rfl,by decide,by decide,by decide⟩,rfl⟩
   have hcall:qO bZ args= .mk 4 (0,0,[]) [] [] 0 args:=by
    unfold qO;rw[if_neg (by decide),if_neg (by decide),if_pos rfl]
   refine⟨fun ts q d b m hrest he hd=>?_,⟨_,_,rfl,rP hN⟩⟩;have hd':d+1+nV args<=60:=by
    rw[if_neg (by simpa using hne)] at hd;omega
   have:=a4b hN (by decide) (d:=d) (dp:=nV args) hne (fun y hy=>⟨(ih y hy).1.mono (xR hy),(ih y hy).2⟩) (.inl rfl) hd' hrest;refine this.mono fun f hf=>?_;rw[hf,hcall]
  rw[if_neg h4] at hr⊢;by_cases h5:k=5
  ·rw[if_pos h5] at hr⊢;simp only[aQ,beq_iff_eq,jO,iZ] at hr;obtain⟨⟨⟨⟨rfl,rfl⟩,rfl⟩,hs⟩,hl⟩:=hr;subst h5;obtain⟨hN,hK⟩:=b4s hs;have hcall:∀l,qO nm l= .mk 5 (0,0,[]) [] nm 0 l:=by
    have:nm=gX\/nm=c1m\/nm=c1n\/nm=c1o:=(by simpa[gP] using hs);intro l;unfold qO;rcases this with rfl|rfl|rfl|rfl<;>rw[if_neg (by decide),if_neg (by decide),if_neg (by decide)]
   refine⟨fun ts q d b m hrest he hd=>?_,⟨_,_,rfl,rP hN⟩⟩;rcases hl with hl|⟨rfl,rfl⟩
   ·obtain⟨a,rfl⟩:=a3r hl;obtain⟨hA,bA⟩:=ih a (by simp);have hda:rY a<=nV [a]:=xR (by simp);simp only[lW,fM,if_false] at hd;have:=a4b hN hK (d:=d) (dp:=rY a) (l:=[a]) (by simp) (fun y hy=>by simp at hy;subst hy;exact⟨hA,bA⟩) (.inr rfl) (by omega) (by simpa[lJ] using hrest);refine this.mono fun f hf=>?_;rw[hf,hcall];rfl
   ·have h2:Rest ts q (wd gX::sg 40::sg 42::sg 41::b::m):=hrest;have h3:=h2.tail;have h4:=h3.tail;have h5:=h4.tail;refine Ev.of fun f=>?_;rw[vC hN h2 (by simp),take_one h3 (by simp) (by decide)];simp only;unfold iW;rw[if_neg (by decide),if_pos rfl,sK h4 (by simp) (by decide),take_one h5 (by simp) (by decide)];simp only;rw[hcall];rfl
  ·rw[if_neg h5] at hr;cases hr
end
section
end
section
theorem bind_mono{r r':Res}{g g':Nat->Ex->Res}(h1:r≠ .o->r'=r)(h2:∀k x,g k x≠ .o->g' k x=g k x)(hn:r.bind g≠ .o):r'.bind g'=r.bind g:=by
 cases r with
 |o=>exact absurd rfl hn
 |bad e=>rw[h1 (by simp)];rfl
 |good k x=>rw[h1 (by simp)];exact h2 k x hn
theorem sS{r r':Res}{d:Nat}(h:r≠ .o->r'=r)(hn:fB d r≠ .o):fB d r'=fB d r:=by
 unfold fB at hn⊢;split
 ·rename_i hd;rw[if_pos hd] at hn;exact h hn
 ·rfl
theorem b4t{ts:List Tok}{run run':Job->Res}(h:∀j,run j≠ .o->run' j=run j)(j:Job)(hn:nI ts run j≠ .o):nI ts run' j=nI ts run j:=by
 have hcalled:∀nm k d,iW ts run nm k d≠ .o->iW ts run' nm k d=iW ts run nm k d:=by
  intro nm k d hn;unfold iW at hn⊢;split
  ·rfl
  ·rename_i h1;rw[if_neg h1] at hn;split
   ·rename_i h2;rw[if_pos h2] at hn;cases ht:bH ts k [[42],[41]] with
    |some k'=>rfl
    |none=>
     rw[ht] at hn;exact h _ hn
   ·rename_i h2;rw[if_neg h2] at hn;exact h _ hn
 cases j with
 |lp n k d x=>
  rw[wG] at hn⊢;rw[wG];cases ht:fI ts k (dZ n) with
  |none=>rfl
  |some p=>
   rw[ht] at hn;exact bind_mono (h _) (fun _ _=>h _) hn
 |args nm k d acc=>
  rw[sF] at hn⊢;rw[sF];refine bind_mono (sS (h _)) (fun k1 x hn2=>?_) hn;cases ht:(if nm=bZ then bH ts k1 [[44]] else none) with
  |none=>rfl
  |some k2=>
   rw[ht] at hn2;exact h _ hn2
 |rd n k d=>
  by_cases h2:n=2
  ·subst h2;rw[a1b] at hn⊢;rw[a1b];cases ht:bH ts k [rW] with
   |none=>
    rw[ht] at hn;exact h _ hn
   |some k'=>
    rw[ht] at hn;exact bind_mono (sS (h _)) (fun _ _ _=>rfl) hn
  by_cases h7:n=7
  ·subst h7;rw[a1a] at hn⊢;rw[a1a];cases ht:bH ts k [[45]] with
   |some k'=>
    rw[ht] at hn;exact bind_mono (sS (h _)) (fun _ _ _=>rfl) hn
   |none=>
    rw[ht] at hn;simp only at hn⊢;unfold kV at hn⊢;cases hx:ts[k]? with
    |none=>rfl
    |some x=>
     rw[hx] at hn;simp only at hn⊢;split
     ·rfl
     ·rename_i hk;rw[if_neg hk] at hn;cases hc:fZ ts k [(kE,0),(nW,1),(gN,2)] with
      |some p=>rfl
      |none=>
       rw[hc] at hn;simp only at hn⊢;cases hp:bH ts k [[40]] with
       |some k'=>
        rw[hp] at hn;exact bind_mono (sS (h _)) (fun _ _ _=>rfl) hn
       |none=>
        rw[hp] at hn;simp only at hn⊢;cases hm:mM ts k with
        |none=>rfl
        |some p=>
         rw[hm] at hn;obtain⟨nm,k1⟩:=p;simp only at hn⊢;cases hq:bH ts k1 [[40]] with
         |some k2=>
          rw[hq] at hn;exact hcalled _ _ _ hn
         |none=>rfl
  by_cases h3:n=3
  ·subst h3;rw[xD] at hn⊢;rw[xD];unfold a4k at hn⊢;refine bind_mono (h _) (fun k1 x hn2=>?_) hn;cases ht:fI ts k1 (dZ 3) with
   |none=>rfl
   |some p=>
    rw[ht] at hn2;exact bind_mono (h _) (fun _ _ _=>rfl) hn2
  ·rw[uP _ _ _ _ h2 h7 h3] at hn⊢;rw[uP _ _ _ _ h2 h7 h3];exact bind_mono (h _) (fun _ _=>h _) hn
theorem a9n(ts:List Tok):∀(f:Nat) (j:Job),dW ts f j≠ .o->dW ts (f+1) j=dW ts f j
 |0,_j,h=>absurd rfl h
 |f+1,j,h=>b4t (a9n ts f) j h
theorem a9o{ts:List Tok}{f:Nat}{j:Job}(h:dW ts f j≠ .o):∀(g:Nat),dW ts (f+g) j=dW ts f j
 |0=>rfl
 |g+1=>by
  have ih:=a9o h g;show dW ts (f+g+1) j=_;rw[a9n ts (f+g) j (by rw[ih];exact h),ih]
theorem c5x{ts:List Tok}{f:Nat}{j:Job}{r:Res}(h:Ev fun g=>dW ts g j=r)(hf:dW ts f j≠ .o):dW ts f j=r:=by
 obtain⟨f0,h⟩:=h;rw[<-a9o hf f0];exact h (f+f0) (by omega)
end
section
def wReturning:List UInt8:=[114,101,116,117,114,110,105,110,103]
end
section
theorem none_eq{x:Ex}(h:d3i x=true):x=zeroE:=same_eq x zeroE h
def looseQ(q:Qu):Bool:=
 (decide (0<q.items.length)&&q.items.all d3r)&&d4c q.frm&&(d3i q.wher||eH q.wher)&&(d3i q.having||eH q.having&&decide (0<q.group.length))&&decide (-1<=q.limit)&&
 (q.joins.all fun j=>d4c j.s&&eH j.on)&&q.group.all eH&&q.orders.all fun o=>eH o.x
theorem right_loose{q:Qu}(h:d3e q=true):looseQ q=true/\d7t q=false:=by
 unfold d3e d4l at h;unfold looseQ d7t;simp only[aQ,jO,decide_eq_true_eq,Bool.or_eq_false_iff,decide_eq_false_iff_not] at h⊢;obtain⟨⟨⟨⟨⟨⟨⟨⟨⟨hi0,hi32⟩,hi⟩,hs⟩,hw⟩,hh⟩,hlim⟩,⟨hj4,hj⟩⟩,⟨hg8,hg⟩⟩,⟨ho8,ho⟩⟩:=h;exact⟨⟨⟨⟨⟨⟨⟨⟨⟨hi0,hi⟩,hs⟩,hw⟩,hh⟩,hlim⟩,hj⟩,hg⟩,ho⟩,⟨⟨by omega,by omega⟩,by omega⟩,by omega⟩
end
end Go.Proofs.YtfkekkgfmhcanaaGreatDoor
