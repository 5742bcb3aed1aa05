/- Texts beside the shared ones. -/
import Derived.Test.YtfkekkgfmhcanaaGreatDoorX0
import Derived.Test.YtfkekkgfmhcanaaGreatDoorQ3
namespace Go.Proofs.YtfkekkgfmhcanaaGreatDoor
open Go.RowKit
open _root_.Bool renaming and_eq_true->aQ,false_eq_true->fM,not_eq_true'->nT,or_eq_true->jO
open _root_.List renaming all_eq_true->jA,length_append->bD,length_cons->aX,length_singleton->dB,range->iU
open _root_.Nat renaming add_comm->oJ,le_refl->aH
open _root_.Option renaming bind_some->bU
set_option maxRecDepth 100000
section
theorem tkE_shape{x:Ex}(hc:eH x=true):(∃q,tkE x=sg 40::q)\/(∃v:Int×Int×List UInt8,chk v.1 v.2.1 v.2.2=0/\tkE x=[oW v])\/(∃f,a6u f/\tkE x=[wd f])\/(∃f n,a6u f/\a6u n/\tkE x=[wd f,sg 46,wd n])\/(∃f q,a6u f/\tkE x=wd f::sg 40::q):=by
 obtain⟨hr,-⟩:=a0u hc;obtain⟨k,v,t,nm,o,args⟩:=x
 replace hr:dV k v t nm o args=true:=hr
 unfold dV at hr;simp only[tkE];unfold b4p;by_cases h1:k=1
 ·rw[if_pos h1] at hr⊢;simp only[aQ,beq_iff_eq] at hr;exact .inr (.inl ⟨v,hr.1.2,rfl⟩)
 rw[if_neg h1] at hr⊢;by_cases h2:k=2
 ·rw[if_pos h2] at hr⊢;simp only[aQ,beq_iff_eq,jO] at hr;by_cases h0:t=[]
  ·rw[if_pos h0];exact .inr (.inr (.inl ⟨nm,b0e hr.1.2,rfl⟩))
  ·rw[if_neg h0];exact .inr (.inr (.inr (.inl ⟨t,nm,b0e (hr.2.resolve_left h0),b0e hr.1.2,rfl⟩)))
 rw[if_neg h2] at hr⊢;by_cases h3:k=3
 ·subst h3;rw[if_neg (by decide),if_neg (by decide)];split
  ·exact .inl ⟨_,rfl⟩
  ·split
   ·rename_i h19;have hN:a6u (bI o):=by
     rcases h19 with rfl|rfl
     ·exact⟨⟨108,[101,110,103,116,104],rfl,by decide,by decide,by decide⟩,rfl⟩
     ·exact⟨⟨97,[98,115],rfl,by decide,by decide,by decide⟩,rfl⟩
    exact .inr (.inr (.inr (.inr ⟨_,_,hN,rfl⟩)))
   ·split
    ·exact .inl ⟨_,rfl⟩
    ·exact .inl ⟨_,rfl⟩
 rw[if_neg h3] at hr;by_cases h4:k=4
 ·rw[if_pos h4];exact .inr (.inr (.inr (.inr ⟨bZ,_,⟨⟨99,[111,97,108,101,115,99,101],rfl,by decide,by decide,by decide⟩,rfl⟩,rfl⟩)))
 rw[if_neg h4] at hr⊢;by_cases h5:k=5
 ·rw[if_pos h5] at hr⊢;simp only[aQ] at hr;exact .inr (.inr (.inr (.inr ⟨nm,_,(b4s hr.1.2).1,rfl⟩)))
 ·rw[if_neg h5] at hr;cases hr
def EndsE(b:kG):Prop:=c4d b/\∀j,j<7->xB j b
def endsB(b:kG):Bool:= !bIs b [40]&& !bIs b [46]&&(iU 7).all fun j=>c5v j b
theorem endsE_of{b:kG}(h:endsB b=true):EndsE b:=by
 unfold endsB at h;simp only[aQ,nT,jA,List.mem_range] at h;exact⟨h.1,fun j hj=>zR (h.2 j hj)⟩
theorem expr_reads{ts:List Tok}(hT:lC ts){x:Ex}(hc:eH x=true)(hd:rY x<=60){k:Nat}{b:kG}{m:List kG}(hr:Rest ts k (tkE x++b::m))(he:EndsE b):d3j ts k= .good (k+(tkE x).length) x:=by
 obtain⟨hA,hB⟩:=a6s _ x (aH _) hc;have h1:=kL hA hB (n:=0) (d:=0) (by omega) hr he.1 (by omega) (fun j _ hj=>he.2 j hj);have hk:k<ts.length:=by
  obtain⟨c,q,e,_⟩:=hB;rw[e] at hr;have:=hr.lt;simp at this;omega
 have hends:=yM hT hk;have h2:uD ts k= .good (k+(tkE x).length) x:=c5x h1 (by intro e;unfold uD at hends;rw[e] at hends;exact hends);unfold d3j;rw[h2]
theorem name_reads{ts:List Tok}{k:Nat}{n:List UInt8}{m:List kG}(hn:a6u n)(h:Rest ts k (wd n::m))(hm:m≠[]):mM ts k=some (n,k+1):=by
 obtain⟨x,hx,hb⟩:=h.head;have hk:x.k=1:=congrArg Prod.fst hb;have ht:x.t=n:=congrArg (fun b:kG=>b.2.1) hb;unfold mM;rw[hx];simp only;rw[if_pos (by unfold fH;rw[hk,ht,hn.kw];rfl),ht,h.next hm]
theorem name_not{ts:List Tok}{k:Nat}{b:kG}{m:List kG}(h:Rest ts k (b::m))(hb:b.1≠1\/kwB b.2.1=true):mM ts k=none:=by
 obtain⟨x,hx,rfl⟩:=h.head;unfold mM;rw[hx];simp only;rw[if_neg];unfold fH;rcases hb with hb|hb
 ·have hb':x.k≠1:=hb;have:(x.k==1)=false:=(by simpa using hb');rw[this];simp
 ·rw[show kwB x.t=true from hb];simp
theorem as_reads{ts:List Tok}{k:Nat}{al:List UInt8}{b:kG}{m:List kG}(h:d3c al=true)(hr:Rest ts k ((if al=[] then[] else[wd wAs,wd al])++b::m))(hb:bIs b wAs=false):asR ts k= .good (k+(if al=[] then[] else[wd wAs,wd al]:List kG).length) al:=by
 unfold asR;split at hr
 ·rename_i h0;subst h0;have hr':Rest ts k (b::m):=hr;rw[gZ hr' hb,if_pos rfl];rfl
 ·rename_i h0;have hn:mO al=true:=by
   unfold d3c at h;simp only[jO,beq_iff_eq] at h;exact h.resolve_left h0
  have hr':Rest ts k (wd wAs::wd al::b::m):=hr;rw[take_one hr' (by simp) (by decide)];simp only;rw[name_reads (b0e hn) hr'.tail (by simp),if_neg h0];rfl
theorem named_split(l:List kG)(al:List UInt8):namedTk l al=l++(if al=[] then[] else[wd wAs,wd al]):=by
 unfold namedTk;split<;>simp
theorem so_reads{ts:List Tok}{k:Nat}{s:So}{b:kG}{m:List kG}(h:d4c s=true)(hr:Rest ts k (tkSo s++b::m))(hb:bIs b wAs=false):d3b ts k= .good (k+(tkSo s).length) s:=by
 unfold d4c at h;simp only[aQ] at h;unfold tkSo at hr⊢;rw[named_split] at hr⊢;have hr1:Rest ts k (wd s.t::((if s.al=[] then[] else[wd wAs,wd s.al])++b::m)):=(by simpa using hr);have hr2:=hr1.tail;unfold d3b;rw[name_reads (b0e h.1) hr1 (by simp)];simp only;rw[as_reads h.2 hr2 hb];simp only[d2u.bind,bD,dB];rw[Nat.add_assoc]
theorem no_star{ts:List Tok}{k:Nat}{x:Ex}{b:kG}{m:List kG}(hc:eH x=true)(hr:Rest ts k (tkE x++b::m))(hb:bIs b [46]=false):(mM ts k).bind (fun p=>(bH ts p.2 [[46],[42]]).map fun k2=>(p.1,k2))=none:=by
 rcases tkE_shape hc with⟨q,e⟩|⟨v,hv,e⟩|⟨f,hf,e⟩|⟨f,n,hf,hn,e⟩|⟨f,q,hf,e⟩
 ·rw[e] at hr;rw[name_not (b:=sg 40) hr (.inl (by decide))];rfl
 ·rw[e] at hr;rw[name_not (b:=oW v) hr ?_]
  ·rfl
  ·obtain⟨v1,v2,v3⟩:=v;by_cases h01:v1=0\/v1=1
   ·right;obtain⟨_,hcs⟩:=vB hv;rcases hcs with⟨rfl,rfl,rfl⟩|⟨rfl,rfl,rfl⟩|⟨rfl,rfl,rfl⟩|⟨rfl,rfl⟩|⟨rfl,rfl⟩|⟨rfl,rfl⟩
    ·rfl
    ·rfl
    ·rfl
    ·omega
    ·omega
    ·omega
   ·left;unfold oW;rw[if_neg h01];simp
 ·rw[e] at hr;have hr1:Rest ts k (wd f::b::m):=hr;rw[name_reads hf hr1 (by simp)];simp only[bU];rw[gZ hr1.tail hb];rfl
 ·rw[e] at hr;have hr1:Rest ts k (wd f::sg 46::wd n::b::m):=hr;rw[name_reads hf hr1 (by simp)];simp only[bU];rw[sK hr1.tail (by simp) (by decide),gZ hr1.tail.tail (by show(true&&(n==[42]))=false;rw[a3o hn 42 (by decide)];rfl)];rfl
 ·rw[e] at hr;have hr1:Rest ts k (wd f::sg 40::(q++b::m)):=(by simpa using hr);rw[name_reads hf hr1 (by simp)];simp only[bU];rw[gZ hr1.tail (by decide)];rfl
theorem first_of{x:Ex}(hc:eH x=true):∃c q,tkE x=c::q/\a9a c:=(a6s _ x (aH _) hc).2
def EndsI(b:kG):Prop:=EndsE b/\bIs b wAs=false
theorem it_reads{ts:List Tok}(hT:lC ts){i:It}(h:d3r i=true)(hd:i.star=false->rY i.x<=60){k:Nat}{b:kG}{m:List kG}(hr:Rest ts k (tkIt i++b::m))(he:EndsI b):d3x ts k= .good (k+(tkIt i).length) i:=by
 obtain⟨star,t,x,al⟩:=i;unfold d3r at h;unfold tkIt at hr⊢;unfold d3x;cases star
 ·simp only[fM,if_false,aQ,beq_iff_eq] at h hr⊢;obtain⟨⟨rfl,hc⟩,hal⟩:=h;rw[named_split] at hr⊢;obtain⟨c,q,e,hcf⟩:=first_of hc;have hr0:Rest ts k (tkE x++((if al=[] then[] else[wd wAs,wd al])++b::m)):=(by simpa using hr);have hr1:Rest ts k (c::(q++((if al=[] then[] else[wd wAs,wd al])++b::m))):=(by rw[e] at hr0;exact hr0);have hsplit:∃b' m',((if al=[] then[] else[wd wAs,wd al])++b::m)=b'::m'/\EndsE b':=by
   split
   ·exact⟨b,m,rfl,he.1⟩
   ·exact⟨wd wAs,_,rfl,endsE_of (by rfl)⟩
  obtain⟨b',m',e',he'⟩:=hsplit;have hr2:Rest ts k (tkE x++b'::m'):=(by rw[<-e'];exact hr0);rw[gZ hr1 hcf.2.2];simp only;rw[no_star hc hr2 he'.1.2];simp only;rw[expr_reads hT hc (hd rfl) hr2 he'];simp only[d2u.bind];have hr3:=hr0.app;rw[as_reads hal hr3 he.2];simp only[bD];rw[Nat.add_assoc]
 ·simp only[if_true,aQ,beq_iff_eq] at h hr⊢;obtain⟨⟨hn,rfl⟩,ht⟩:=h;have hx:=none_eq hn;subst hx;split at hr
  ·rename_i h0;subst h0;have hr1:Rest ts k (sg 42::b::m):=hr;rw[take_one hr1 (by simp) (by decide),if_pos rfl];rfl
  ·rename_i h0;have hN:a6u t:=by
    unfold d3c at ht;simp only[jO,beq_iff_eq] at ht;exact b0e (ht.resolve_left h0)
   have hr1:Rest ts k (wd t::sg 46::sg 42::b::m):=hr;rw[gZ hr1 (by show(true&&(t==[42]))=false;rw[a3o hN 42 (by decide)];rfl)];simp only;rw[name_reads hN hr1 (by simp)];simp only[bU];rw[sK hr1.tail (by simp) (by decide),take_one hr1.tail.tail (by simp) (by decide),if_neg h0];rfl
theorem list_reads{α:Type}{ts:List Tok}{one:Nat->d2u α}{tk:α->List kG}(G:kG->Prop)(hG:G (sg 44)):∀(l:List α) (f k:Nat) (acc:List α) (b:kG) (m:List kG),l≠[]->(∀y∈l,∀k b m,Rest ts k (tk y++b::m)->G b->one k= .good (k+(tk y).length) y)->G b->bIs b [44]=false->
  l.length<=f->Rest ts k (lJ (l.map tk)++b::m)->d3o ts one f k acc= .good (k+(lJ (l.map tk)).length) (acc++l)
 |[],_,_,_,_,_,h,_,_,_,_,_=>absurd rfl h
 |_::_,0,_,_,_,_,_,_,_,_,hf,_=>by simp at hf
 |[x],f+1,k,acc,b,m,_,h,hb,hc,_,hr=>by
  have hr1:Rest ts k (tk x++b::m):=hr;unfold d3o;rw[h x (by simp) k b m hr1 hb];simp only[d2u.bind];rw[gZ hr1.app hc];rfl
 |x::y::l,f+1,k,acc,b,m,_,h,hb,hc,hf,hr=>by
  have ej:lJ ((x::y::l).map tk)=tk x++sg 44::lJ ((y::l).map tk):=(by simp[lJ]);have hr1:Rest ts k (tk x++sg 44::(lJ ((y::l).map tk)++b::m)):=(by rw[ej] at hr;simpa using hr);have hr2:=hr1.app;have ih:=list_reads G hG (y::l) f (k+(tk x).length+1) (acc++[x]) b m (by simp) (fun z hz=>h z (by simp[hz])) hb hc (by simp at hf⊢;omega) hr2.tail;unfold d3o;rw[h x (by simp) k (sg 44) _ hr1 hG];simp only[d2u.bind];rw[take_one hr2 (by simp) (by decide)];simp only;rw[ih,ej];simp[Nat.add_assoc,oJ,Nat.add_left_comm]
theorem join_len{α:Type}{tk:α->List kG}:∀(l:List α),(∀y∈l,1<=(tk y).length)->l.length<=(lJ (l.map tk)).length
 |[],_=>by simp
 |[x],h=>by simpa[lJ] using h x (by simp)
 |x::y::l,h=>by
  have ih:=join_len (y::l) fun z hz=>h z (by simp[hz]);have:=h x (by simp);have ej:lJ ((x::y::l).map tk)=tk x++sg 44::lJ ((y::l).map tk):=(by simp[lJ]);rw[ej];simp only[aX,bD] at ih⊢;omega
end
end Go.Proofs.YtfkekkgfmhcanaaGreatDoor
