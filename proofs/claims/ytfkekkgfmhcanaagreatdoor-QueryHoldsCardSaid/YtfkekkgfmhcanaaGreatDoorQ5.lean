/- Texts beside the shared ones. -/
import Derived.Test.YtfkekkgfmhcanaaGreatDoorX0
import Derived.Test.YtfkekkgfmhcanaaGreatDoorQ4
namespace Go.Proofs.YtfkekkgfmhcanaaGreatDoor
open Go.RowKit
open _root_.Bool renaming and_eq_true->aQ,false_eq_true->fM,not_eq_true'->nT,or_eq_true->jO
open _root_.Nat renaming add_comm->oJ
set_option maxRecDepth 100000
section
abbrev endB:kG:=(4,[],(0,0,[]))
def HeadIn(S:List (List UInt8))(l:List kG):Prop:=∃b m,l=b::m/\(b=endB\/∃w∈S,b=wd w)
theorem HeadIn.more{S T:List (List UInt8)}{l:List kG}(h:HeadIn S l)(hs:∀w∈S,w∈T):HeadIn T l:=by
 obtain⟨b,m,e,hb⟩:=h;exact⟨b,m,e,hb.imp id fun⟨w,hw,e⟩=>⟨w,hs w hw,e⟩⟩
theorem HeadIn.seg{S:List (List UInt8)}{l seg:List kG}{w:List UInt8}(h:HeadIn S l)(hs:seg=[]\/∃q,seg=wd w::q):HeadIn (w::S) (seg++l):=by
 rcases hs with rfl|⟨q,rfl⟩
 ·exact h.more fun v hv=>by simp[hv]
 ·exact⟨wd w,q++l,rfl,.inr ⟨w,by simp,rfl⟩⟩
abbrev afterW:List (List UInt8):=[wOn,wReturning]
abbrev behindW:List (List UInt8):=d5v::d6o::d4q::d3v::d5n::d6p::afterW
theorem head_all{p:kG->Prop}(h0:p endB){S:List (List UInt8)}(h:∀w∈S,p (wd w)){b:kG}(hb:b=endB\/∃w∈S,b=wd w):p b:=by
 rcases hb with rfl|⟨w,hw,rfl⟩
 ·exact h0
 ·exact h w hw
def okB(b:kG):Bool:=endsB b&& !bIs b wAs&& !bIs b [44]&& !bIs b e6b&& !bIs b d4e
theorem behind_ok{b:kG}(hb:b=endB\/∃w∈behindW,b=wd w):okB b=true:=
 head_all (p:=fun b=>okB b=true) (by decide) (by decide) hb
theorem ok_parts{b:kG}(h:okB b=true):EndsE b/\bIs b wAs=false/\bIs b [44]=false/\bIs b e6b=false/\bIs b d4e=false:=by
 unfold okB at h;simp only[aQ,nT] at h;exact⟨endsE_of h.1.1.1.1,h.1.1.1.2,h.1.1.2,h.1.2,h.2⟩
theorem jo_reads{ts:List Tok}(hT:lC ts){j:Jo}(h:d4c j.s=true)(hc:eH j.on=true)(hd:rY j.on<=60){k:Nat}{b:kG}{m:List kG}(hr:Rest ts k (tkSo j.s++wd wOn::(tkE j.on++b::m)))(he:EndsE b):
  d5h ts k= .good (k+(tkSo j.s).length+1+(tkE j.on).length) j:=by
 unfold d5h;rw[so_reads h hr (by decide)];simp only[d2u.bind];have hr2:=hr.app;rw[take_one hr2 (by simp) (by decide)];simp only;rw[expr_reads hT hc hd hr2.tail he]
theorem jos_reads{ts:List Tok}(hT:lC ts):∀(l:List Jo) (f k:Nat) (acc:List Jo) (R:List kG),(∀j∈l,d4c j.s=true/\eH j.on=true/\rY j.on<=60)->HeadIn (d6o::d4q::d3v::d5n::d6p::afterW) R->l.length<f->Rest ts k (l.flatMap tkJo++R)->
  d4u ts f k acc= .good (k+(l.flatMap tkJo).length) (acc++l)
 |_,0,_,_,_,_,_,h,_=>by omega
 |[],f+1,k,acc,R,_,hR,_,hr=>by
  obtain⟨b,m,rfl,hb⟩:=hR;have hr1:Rest ts k (b::m):=hr;unfold d4u;rw[gZ hr1 (head_all (p:=fun b=>bIs b d5v=false) (by decide) (by decide) hb)];simp
 |j::l,f+1,k,acc,R,h,hR,hf,hr=>by
  obtain⟨h1,h2,h3⟩:=h j (by simp);have e:(j::l).flatMap tkJo++R=wd d5v::(tkSo j.s++wd wOn::(tkE j.on++(l.flatMap tkJo++R))):=(by simp[tkJo]);rw[e] at hr;have hnext:HeadIn behindW (l.flatMap tkJo++R):=hR.seg (by
   cases l with
   |nil=>exact .inl rfl
   |cons a l=>exact .inr ⟨_,by simp[tkJo];rfl⟩)
  obtain⟨b,m,e2,hb⟩:=hnext;have hr1:=hr.tail;have hr2:=hr1.app.tail.app;have ih:=jos_reads hT l f (k+1+(tkSo j.s).length+1+(tkE j.on).length) (acc++[j]) R (fun i hi=>h i (by simp[hi])) hR (by simp at hf;omega) hr2;rw[e2] at hr1;unfold d4u;rw[take_one hr (by simp) (by decide)];simp only;rw[jo_reads hT h1 h2 h3 hr1 (ok_parts (behind_ok hb)).1];simp only[d2u.bind];rw[ih];simp[tkJo,Nat.add_assoc,oJ,Nat.add_left_comm]
theorem od_reads{ts:List Tok}(hT:lC ts){o:Od}(hc:eH o.x=true)(hd:rY o.x<=60){k:Nat}{b:kG}{m:List kG}(hr:Rest ts k (tkOd o++b::m))(he:EndsE b/\bIs b e6b=false/\bIs b d4e=false):d3f ts k= .good (k+(tkOd o).length) o:=by
 obtain⟨h1,h4,h5⟩:=he;obtain⟨x,down⟩:=o;unfold tkOd at hr⊢;unfold d3f;cases down
 ·have hr1:Rest ts k (tkE x++b::m):=by simpa using hr
  rw[expr_reads hT hc hd hr1 h1];simp only[d2u.bind];rw[gZ hr1.app h4];simp only;rw[gZ hr1.app h5];simp
 ·have hr1:Rest ts k (tkE x++wd d4e::b::m):=by simpa using hr
  rw[expr_reads hT hc hd hr1 (endsE_of (by decide))];simp only[d2u.bind];rw[gZ hr1.app (by decide)];simp only;rw[take_one hr1.app (by simp) (by decide)];simp[Nat.add_assoc]
theorem maybe_reads{ts:List Tok}(hT:lC ts){w:List UInt8}(hw:bIs (wd w) w=true){x:Ex}(h:d3i x=true\/eH x=true)(hd:rY x<=60){k:Nat}{b:kG}{m:List kG}(hr:Rest ts k ((if d3i x then[] else wd w::tkE x)++b::m))(he:EndsE b)(hb:bIs b w=false):
  d3s ts w k= .good (k+(if d3i x then[] else wd w::tkE x:List kG).length) x:=by
 unfold d3s;split at hr
 ·rename_i hn;have hr1:Rest ts k (b::m):=hr;rw[gZ hr1 hb,if_pos hn,none_eq hn];rfl
 ·rename_i hn;have hr1:Rest ts k (wd w::(tkE x++b::m)):=hr;rw[take_one hr1 (by simp) hw];simp only;rw[expr_reads hT (h.resolve_left hn) hd hr1.tail he,if_neg hn];simp[Nat.add_assoc,oJ]
theorem limit_reads{ts:List Tok}{n:Int}(hn: -1<=n){k:Nat}{b:kG}{m:List kG}(hr:Rest ts k ((if 0<=n then[wd d6p,oW (2,n,[])] else[])++b::m))(hb:bIs b d6p=false):d8h ts k= .good (k+(if 0<=n then[wd d6p,oW (2,n,[])] else[]:List kG).length) n:=by
 unfold d8h;split at hr
 ·rename_i h0;have hr1:Rest ts k (wd d6p::oW (2,n,[])::b::m):=hr;have hr2:=hr1.tail;rw[take_one hr1 (by simp) (by decide)];simp only;obtain⟨x,hx,hb⟩:=hr2.head;have hv:x.v=(2,n,[]):=by
   have:=congrArg (fun b:kG=>b.2.2) hb;rw[show oW (2,n,[])=(2,lit 2 n [],(2,n,[])) by unfold oW;rw[if_neg (by simp)]] at this;exact this
  rw[hx];simp only;rw[hv,if_pos rfl,hr2.next (by simp),if_pos h0];rfl
 ·rename_i h0;have hr1:Rest ts k (b::m):=hr;rw[gZ hr1 hb,if_neg h0];have:n= -1:=(by omega);rw[this];rfl
theorem it_first{i:It}(h:d3r i=true):∃c q,tkIt i=c::q/\bIs c d2s=false:=by
 obtain⟨star,t,x,al⟩:=i;unfold d3r at h;unfold tkIt;cases star
 ·simp only[fM,if_false,aQ,beq_iff_eq] at h⊢;rw[named_split];have kw:∀f,a6u f->bIs (wd f) d2s=false:=fun f hf=>(by show(true&&(f==d2s))=false;rw[b9y hf.kw (by rfl)];rfl);rcases tkE_shape h.1.2 with⟨q,e⟩|⟨v,hv,e⟩|⟨f,hf,e⟩|⟨f,n,hf,hn,e⟩|⟨f,q,hf,e⟩<;>rw[e]
  ·exact⟨_,_,rfl,by decide⟩
  ·refine⟨_,_,rfl,?_⟩;obtain⟨v1,v2,v3⟩:=v;by_cases h01:v1=0\/v1=1
   ·obtain⟨_,hcs⟩:=vB hv;rcases hcs with⟨rfl,rfl,rfl⟩|⟨rfl,rfl,rfl⟩|⟨rfl,rfl,rfl⟩|⟨rfl,rfl⟩|⟨rfl,rfl⟩|⟨rfl,rfl⟩
    ·decide
    ·decide
    ·decide
    ·omega
    ·omega
    ·omega
   ·unfold oW;rw[if_neg h01];rfl
  ·exact⟨_,_,rfl,kw f hf⟩
  ·exact⟨_,_,rfl,kw f hf⟩
  ·exact⟨_,_,rfl,kw f hf⟩
 ·simp only[if_true,aQ,beq_iff_eq] at h⊢;split
  ·exact⟨_,_,rfl,by decide⟩
  ·rename_i h0;have hN:a6u t:=by
    have:=h.2;unfold d3c at this;simp only[jO,beq_iff_eq] at this;exact b0e (this.resolve_left h0)
   exact⟨_,_,rfl,by show(true&&(t==d2s))=false;rw[b9y hN.kw (by rfl)];rfl⟩
end
end Go.Proofs.YtfkekkgfmhcanaaGreatDoor
