/- Texts Q3 Q4. -/
import Derived.Test.YtohlomdapelgeaaGreatDoorAC
namespace Go.Proofs.YtohlomdapelgeaaGreatDoor
open Go.RowKit
open _root_.Bool renaming and_eq_true->aQ,false_eq_true->fM,not_eq_true'->nT,or_eq_true->jO
open _root_.Go.Lib renaming itoa->dQ
open _root_.List renaming all_eq_true->jA,append_assoc->iK,length_append->bD,length_cons->aX,length_singleton->dB,range->iU
open _root_.Nat renaming add_comm->oJ,le_refl->aH
open _root_.Option renaming bind_some->bU
set_option maxRecDepth 100000
section
def namedTk(l:List kG)(al:List UInt8):List kG:=if al=[] then l else l++[wd wAs,wd al]
def tkSo(s:So):List kG:=namedTk [wd s.t] s.al
def tkIt(i:It):List kG:=if i.star then(if i.t=[] then[sg 42] else[wd i.t,sg 46,sg 42]) else namedTk (tkE i.x) i.al
def tkJo(j:Jo):List kG:=wd d5v::(tkSo j.s++wd wOn::tkE j.on)
def tkOd(o:Od):List kG:=tkE o.x++(if o.down then[wd d4e] else[])
def tkQ(q:Qu):List kG:=
 wd d3h::((if q.distinct then[wd d2s] else[])++(lJ (q.items.map tkIt)++wd d5p::(tkSo q.frm++(q.joins.flatMap tkJo++
 ((if d3i q.wher then[] else wd d6o::tkE q.wher)++((if q.group=[] then[] else wd d4q::wd wBy::lJ (q.group.map tkE))++
 ((if d3i q.having then[] else wd d3v::tkE q.having)++((if q.orders=[] then[] else wd d5n::wd wBy::lJ (q.orders.map tkOd))++
 (if 0<=q.limit then[wd d6p,oW (2,q.limit,[])] else[])))))))))
theorem Lx.app{s t:List UInt8}{a b:List kG}(h:Lx s a)(k:Lx t b)(ht:∀r,yL r->yL (t++r)):Lx (s++t) (a++b):=fun r hr=>by
 rw[iK,h _ (ht r hr),k r hr,d1b]
theorem Lx.nil:Lx [] []:=fun r _=>by simp
theorem Lx.blank{s:List UInt8}{a:List kG}(h:Lx s a):Lx (32::s) a:=fun r hr=>by
 show bt (32::(s++r))=_;rw[nZ,h r hr]
theorem Lx.word{s:List UInt8}(h:Wd s):Lx s [wd s]:=fun r hr=>by rw[mZ h hr,c7u];rfl
theorem end_blank(s r:List UInt8):yL (32::s++r):=yL.of _ ab ab
theorem Lx.then{s t:List UInt8}{a b:List kG}(h:Lx s a)(k:Lx t b):Lx (s++32::t) (a++b):=h.app k.blank fun r _=>end_blank t r
theorem word_as:Wd wAs:=⟨97,[115],rfl,by decide,by decide,by decide⟩
theorem named_lx{s al:List UInt8}{a:List kG}(h:Lx s a)(has:d3c al=true):Lx (d4t s al) (namedTk a al):=by
 unfold d4t namedTk;split
 ·exact h
 ·rename_i h0;have hn:mO al=true:=by
   unfold d3c at has;simp only[jO,beq_iff_eq] at has;exact has.resolve_left h0
  have:=(h.then (Lx.word word_as)).then (Lx.word (rO hn).1)
  simpa[iK] using this
theorem so_lx{s:So}(h:d4c s=true):Lx (d4g s) (tkSo s):=by
 unfold d4c at h;simp only[aQ] at h;exact named_lx (Lx.word (rO h.1).1) h.2
theorem it_lx{i:It}(h:d3r i=true)(hf:Fits i.x):Lx (d5x i) (tkIt i):=by
 unfold d3r at h;unfold d5x tkIt;split
 ·rename_i hs;rw[if_pos hs] at h;simp only[aQ,beq_iff_eq] at h;split
  ·intro r _;show bt (42::r)=_;rw[qF 42 aa,c7u];rfl
  ·rename_i h0;have hn:mO i.t=true:=by
    have:=h.2;unfold d3c at this;simp only[jO,beq_iff_eq] at this;exact this.resolve_left h0
   intro r _;have e:i.t++[46,42]++r=i.t++(46::42::r):=aa;rw[e,mZ (rO hn).1 (yL.of _ ab ab),qF 46 aa,qF 42 aa];generalize bt r=z;cases z<;>simp[sg,wd]
 ·rename_i hs;rw[if_neg hs] at h;simp only[aQ,beq_iff_eq] at h;exact named_lx (b4o _ i.x (aH _) h.1.2 hf) h.2
theorem join_lx{α:Type}(tx:α->List UInt8)(tk:α->List kG):∀(l:List α),(∀y∈l,Lx (tx y) (tk y))->l≠[]->Lx (jR [44,32] (l.map tx)) (lJ (l.map tk))
 |[],_,h=>absurd rfl h
 |[x],h,_=>h x aa
 |x::y::l,h,_=>by
  intro r hr;have ih:=join_lx tx tk (y::l) (fun z hz=>h z (by simp[hz])) aa r hr;have e:jR [44,32] ((x::y::l).map tx)++r=tx x++(44::32::(jR [44,32] ((y::l).map tx)++r)):=by
   simp[jR]
  have e2:lJ ((x::y::l).map tk)=tk x++(sg 44::lJ ((y::l).map tk)):=(by simp[lJ]);rw[e,e2,h x aa _ (yL.of _ ab ab),qF 44 aa,nZ,ih];rw[show((3,[44],(0,0,[])):kG)=sg 44 from rfl,c3j,d1b]
def Bl32(o:List UInt8):Prop:=o=[]\/∃s,o=32::s
theorem Bl32.fin{o:List UInt8}(h:Bl32 o):∀r,yL r->yL (o++r):=by
 intro r hr;rcases h with rfl|⟨s,rfl⟩
 ·exact hr
 ·exact end_blank s r
theorem kw_where:Wd d6o:=⟨119,[104,101,114,101],rfl,by decide,by decide,by decide⟩
theorem kw_select:Wd d3h:=⟨115,[101,108,101,99,116],rfl,by decide,by decide,by decide⟩
theorem kw_distinct:Wd d2s:=⟨100,[105,115,116,105,110,99,116],rfl,by decide,by decide,by decide⟩
theorem kw_from:Wd d5p:=⟨102,[114,111,109],rfl,by decide,by decide,by decide⟩
theorem kw_join:Wd d5v:=⟨106,[111,105,110],rfl,by decide,by decide,by decide⟩
theorem kw_on:Wd wOn:=⟨111,[110],rfl,by decide,by decide,by decide⟩
theorem kw_group:Wd d4q:=⟨103,[114,111,117,112],rfl,by decide,by decide,by decide⟩
theorem kw_by:Wd wBy:=⟨98,[121],rfl,by decide,by decide,by decide⟩
theorem kw_having:Wd d3v:=⟨104,[97,118,105,110,103],rfl,by decide,by decide,by decide⟩
theorem kw_order:Wd d5n:=⟨111,[114,100,101,114],rfl,by decide,by decide,by decide⟩
theorem kw_desc:Wd d4e:=⟨100,[101,115,99],rfl,by decide,by decide,by decide⟩
theorem kw_limit:Wd d6p:=⟨108,[105,109,105,116],rfl,by decide,by decide,by decide⟩
theorem jo_lx{j:Jo}(h:d4c j.s=true)(hc:eH j.on=true)(hf:Fits j.on):Lx (e0o j) (tkJo j):=by
 have h1:=((Lx.word kw_join).then (so_lx h)).then (Lx.word kw_on)
 have h2:=(h1.then (b4o _ j.on (aH _) hc hf)).blank;unfold e0o tkJo;simpa[iK] using h2
theorem od_lx{o:Od}(hc:eH o.x=true)(hf:Fits o.x):Lx (d4r o) (tkOd o):=by
 have h1:=b4o _ o.x (aH _) hc hf;unfold d4r tkOd;split
 ·have:=h1.then (Lx.word kw_desc)
  simpa[iK] using this
 ·simpa using h1
theorem jos_lx:∀(l:List Jo),(∀j∈l,d4c j.s=true/\eH j.on=true/\Fits j.on)->Lx (l.flatMap e0o) (l.flatMap tkJo)/\Bl32 (l.flatMap e0o)
 |[],_=>⟨Lx.nil,.inl rfl⟩
 |j::l,h=>by
  obtain⟨h1,h2,h3⟩:=h j aa;obtain⟨ih,ihb⟩:=jos_lx l fun k hk=>h k (by simp[hk]);refine⟨?_,.inr ⟨_,by simp[e0o];rfl⟩⟩;rw[List.flatMap_cons,List.flatMap_cons];exact(jo_lx h1 h2 h3).app ih ihb.fin
structure FitsQ(q:Qu):Prop where
 items:∀i∈q.items,Fits i.x
 joins:∀j∈q.joins,Fits j.on
 wher:Fits q.wher
 group:∀x∈q.group,Fits x
 having:Fits q.having
 orders:∀o∈q.orders,Fits o.x
 limit:I64 q.limit
theorem chk_int(n:Int):chk 2 n []=0:=by simp[chk]
theorem lit_int(n:Int):lit 2 n []=dQ n:=by unfold lit;rw[if_neg ab,if_neg ab,if_pos rfl]
theorem opt_lx{w:List UInt8}(hw:Wd w){x:Ex}(h:d3i x=true\/eH x=true)(hf:Fits x):Lx (if d3i x then[] else[32]++w++[32]++eY x) (if d3i x then[] else wd w::tkE x)/\Bl32 (if d3i x then[] else[32]++w++[32]++eY x):=by
 split
 ·exact⟨Lx.nil,.inl rfl⟩
 ·rename_i hn;have hc:=h.resolve_left hn;have:=((Lx.word hw).then (b4o _ x (aH _) hc hf)).blank;exact⟨by simpa[iK] using this,.inr ⟨_,by simp;rfl⟩⟩
theorem two_lx{w v:List UInt8}(hw:Wd w)(hv:Wd v){α:Type}(tx:α->List UInt8)(tk:α->List kG)(l:List α)(h:∀y∈l,Lx (tx y) (tk y))(e:Prop)[Decidable e](he:e↔l=[]):
  Lx (if e then[] else[32]++w++[32]++v++[32]++jR [44,32] (l.map tx)) (if e then[] else wd w::wd v::lJ (l.map tk))/\Bl32 (if e then[] else[32]++w++[32]++v++[32]++jR [44,32] (l.map tx)):=by
 split
 ·exact⟨Lx.nil,.inl rfl⟩
 ·rename_i hn;have:=(((Lx.word hw).then (Lx.word hv)).then (join_lx tx tk l h (fun e0=>hn (he.2 e0)))).blank;exact⟨by simpa[iK] using this,.inr ⟨_,by simp;rfl⟩⟩
theorem q_lx{q:Qu}(h:looseQ q=true)(hf:FitsQ q):Lx (d8n q) (tkQ q):=by
 unfold looseQ at h;simp only[aQ,jO,decide_eq_true_eq,jA] at h;obtain⟨⟨⟨⟨⟨⟨⟨⟨hi0,hi⟩,hs⟩,hw⟩,hh⟩,_⟩,hj⟩,hg⟩,ho⟩:=h;have hI:=join_lx d5x tkIt q.items (fun i hm=>it_lx (hi i hm) (hf.items i hm)) (by intro e;rw[e] at hi0;simp at hi0);have hA:Lx (d3h++[32]++(if q.distinct then d2s++[32] else[])++d5q q.items++[32]++d5p++[32]++d4g q.frm) (wd d3h::((if q.distinct then[wd d2s] else[])++(lJ (q.items.map tkIt)++wd d5p::tkSo q.frm))):=by
  have h1:Lx (d3h++32::((if q.distinct then d2s++[32] else[])++d5q q.items)) (wd d3h::((if q.distinct then[wd d2s] else[])++lJ (q.items.map tkIt))):=by
   cases q.distinct
   ·exact(Lx.word kw_select).then hI
   ·have:=(Lx.word kw_select).then ((Lx.word kw_distinct).then hI)
    simpa[d5q] using this
  have:=(h1.then (Lx.word kw_from)).then (so_lx hs)
  simpa[iK] using this
 obtain⟨hJ,eJ⟩:=jos_lx q.joins fun j hm=>⟨(hj j hm).1,(hj j hm).2,hf.joins j hm⟩
 obtain⟨hW,eW⟩:=opt_lx kw_where hw hf.wher;obtain⟨hG,eG⟩:=two_lx kw_group kw_by eY tkE q.group (fun x hm=>b4o _ x (aH _) (hg x hm) (hf.group x hm)) (q.group=[]) Iff.rfl;obtain⟨hH,eH⟩:=opt_lx kw_having (hh.imp id And.left) hf.having;obtain⟨hO,eO⟩:=two_lx kw_order kw_by d4r tkOd q.orders (fun o hm=>od_lx (ho o hm) (hf.orders o hm)) (q.orders=[]) Iff.rfl;have hL:Lx (if 0<=q.limit then[32]++d6p++[32]++dQ q.limit else[]) (if 0<=q.limit then[wd d6p,oW (2,q.limit,[])] else[])/\Bl32 (if 0<=q.limit then[32]++d6p++[32]++dQ q.limit else[]):=by
  split
  ·rename_i h0;have hv:Lx (dQ q.limit) [oW (2,q.limit,[])]:=fun r hr=>by
    have:=c6w (chk_int q.limit) hf.limit (fun _=>h0) hr;rw[lit_int] at this;rw[this,c7u]
   have:=((Lx.word kw_limit).then hv).blank;exact⟨by simpa[iK] using this,.inr ⟨_,by simp;rfl⟩⟩
  ·exact⟨Lx.nil,.inl rfl⟩
 have:=(((((hA.app hJ eJ.fin).app hW eW.fin).app hG eG.fin).app hH eH.fin).app hO eO.fin).app hL.1 hL.2.fin;unfold d8n tkQ;simpa[iK] using this
end
section
theorem tkE_shape{x:Ex}(hc:eH x=true):(∃q,tkE x=sg 40::q)\/(∃v:Int×Int×List UInt8,chk v.1 v.2.1 v.2.2=0/\tkE x=[oW v])\/(∃f,a6u f/\tkE x=[wd f])\/(∃f n,a6u f/\a6u n/\tkE x=[wd f,sg 46,wd n])\/(∃f q,a6u f/\tkE x=wd f::sg 40::q):=by
 obtain⟨hr,-⟩:=a0u hc;obtain⟨k,v,t,nm,o,args⟩:=x
 replace hr:dV k v t nm o args=true:=hr
 unfold dV at hr;simp only[tkE];unfold b4p;by_cases h1:k=1
 ·rw[if_pos h1] at hr⊢;simp only[aQ,beq_iff_eq] at hr;exact .inr (.inl ⟨v,hr.1.2,rfl⟩)
 rw[if_neg h1] at hr⊢;by_cases h2:k=2
 ·rw[if_pos h2] at hr⊢;simp only[aQ,beq_iff_eq,jO] at hr;by_cases h0:t=[]
  ·rw[if_pos h0];exact .inr (.inr (.inl ⟨nm,b0e hr.1.2,rfl⟩))
  ·rw[if_neg h0];exact .inr (.inr (.inr (.inl ⟨t,nm,b0e (hr.2.resolve_left h0),b0e hr.1.2,rfl⟩)))
 rw[if_neg h2] at hr⊢;by_cases h3:k=3
 ·subst h3;rw[if_neg ab,if_neg ab];split
  ·exact .inl ⟨_,rfl⟩
  ·split
   ·rename_i h19;have hN:a6u (bI o):=by
     rcases h19 with rfl|rfl
     ·exact⟨⟨108,[101,110,103,116,104],rfl,by decide,by decide,by decide⟩,rfl⟩
     ·exact⟨⟨97,[98,115],rfl,by decide,by decide,by decide⟩,rfl⟩
    exact .inr (.inr (.inr (.inr ⟨_,_,hN,rfl⟩)))
   ·split
    ·exact .inl ⟨_,rfl⟩
    ·exact .inl ⟨_,rfl⟩
 rw[if_neg h3] at hr;by_cases h4:k=4
 ·rw[if_pos h4];exact .inr (.inr (.inr (.inr ⟨bZ,_,⟨⟨99,[111,97,108,101,115,99,101],rfl,by decide,by decide,by decide⟩,rfl⟩,rfl⟩)))
 rw[if_neg h4] at hr⊢;by_cases h5:k=5
 ·rw[if_pos h5] at hr⊢;simp only[aQ] at hr;exact .inr (.inr (.inr (.inr ⟨nm,_,(b4s hr.1.2).1,rfl⟩)))
 ·rw[if_neg h5] at hr;cases hr
def EndsE(b:kG):Prop:=c4d b/\∀j,j<7->xB j b
def endsB(b:kG):Bool:= !bIs b [40]&& !bIs b [46]&&(iU 7).all fun j=>c5v j b
theorem endsE_of{b:kG}(h:endsB b=true):EndsE b:=by
 unfold endsB at h;simp only[aQ,nT,jA,List.mem_range] at h;exact⟨h.1,fun j hj=>zR (h.2 j hj)⟩
theorem expr_reads{ts:List Tok}(hT:lC ts){x:Ex}(hc:eH x=true)(hd:rY x<=60){k:Nat}{b:kG}{m:List kG}(hr:Rest ts k (tkE x++b::m))(he:EndsE b):d3j ts k= .good (k+(tkE x).length) x:=by
 obtain⟨hA,hB⟩:=a6s _ x (aH _) hc;have h1:=kL hA hB (n:=0) (d:=0) aE hr he.1 aE (fun j _ hj=>he.2 j hj);have hk:k<ts.length:=by
  obtain⟨c,q,e,_⟩:=hB;rw[e] at hr;have:=hr.lt;simp at this;omega
 have hends:=yM hT hk;have h2:uD ts k= .good (k+(tkE x).length) x:=c5x h1 (by intro e;unfold uD at hends;rw[e] at hends;exact hends);unfold d3j;rw[h2]
theorem name_reads{ts:List Tok}{k:Nat}{n:List UInt8}{m:List kG}(hn:a6u n)(h:Rest ts k (wd n::m))(hm:m≠[]):mM ts k=some (n,k+1):=by
 obtain⟨x,hx,hb⟩:=h.head;have hk:x.k=1:=congrArg Prod.fst hb;have ht:x.t=n:=congrArg (fun b:kG=>b.2.1) hb;unfold mM;rw[hx];simp only;rw[if_pos (by unfold fH;rw[hk,ht,hn.kw];rfl),ht,h.next hm]
theorem name_not{ts:List Tok}{k:Nat}{b:kG}{m:List kG}(h:Rest ts k (b::m))(hb:b.1≠1\/kwB b.2.1=true):mM ts k=none:=by
 obtain⟨x,hx,rfl⟩:=h.head;unfold mM;rw[hx];simp only;rw[if_neg];unfold fH;rcases hb with hb|hb
 ·have hb':x.k≠1:=hb;have:(x.k==1)=false:=(by simpa using hb');rw[this];simp
 ·rw[show kwB x.t=true from hb];simp
theorem as_reads{ts:List Tok}{k:Nat}{al:List UInt8}{b:kG}{m:List kG}(h:d3c al=true)(hr:Rest ts k ((if al=[] then[] else[wd wAs,wd al])++b::m))(hb:bIs b wAs=false):asR ts k= .good (k+(if al=[] then[] else[wd wAs,wd al]:List kG).length) al:=by
 unfold asR;split at hr
 ·rename_i h0;subst h0;have hr':Rest ts k (b::m):=hr;rw[gZ hr' hb,if_pos rfl];rfl
 ·rename_i h0;have hn:mO al=true:=by
   unfold d3c at h;simp only[jO,beq_iff_eq] at h;exact h.resolve_left h0
  have hr':Rest ts k (wd wAs::wd al::b::m):=hr;rw[take_one hr' aa ab];simp only;rw[name_reads (b0e hn) hr'.tail aa,if_neg h0];rfl
theorem named_split(l:List kG)(al:List UInt8):namedTk l al=l++(if al=[] then[] else[wd wAs,wd al]):=by
 unfold namedTk;split<;>simp
theorem so_reads{ts:List Tok}{k:Nat}{s:So}{b:kG}{m:List kG}(h:d4c s=true)(hr:Rest ts k (tkSo s++b::m))(hb:bIs b wAs=false):d3b ts k= .good (k+(tkSo s).length) s:=by
 unfold d4c at h;simp only[aQ] at h;unfold tkSo at hr⊢;rw[named_split] at hr⊢;have hr1:Rest ts k (wd s.t::((if s.al=[] then[] else[wd wAs,wd s.al])++b::m)):=(by simpa using hr);have hr2:=hr1.tail;unfold d3b;rw[name_reads (b0e h.1) hr1 aa];simp only;rw[as_reads h.2 hr2 hb];simp only[d2u.bind,bD,dB];rw[Nat.add_assoc]
theorem no_star{ts:List Tok}{k:Nat}{x:Ex}{b:kG}{m:List kG}(hc:eH x=true)(hr:Rest ts k (tkE x++b::m))(hb:bIs b [46]=false):(mM ts k).bind (fun p=>(bH ts p.2 [[46],[42]]).map fun k2=>(p.1,k2))=none:=by
 rcases tkE_shape hc with⟨q,e⟩|⟨v,hv,e⟩|⟨f,hf,e⟩|⟨f,n,hf,hn,e⟩|⟨f,q,hf,e⟩
 ·rw[e] at hr;rw[name_not (b:=sg 40) hr (.inl ab)];rfl
 ·rw[e] at hr;rw[name_not (b:=oW v) hr ?_]
  ·rfl
  ·obtain⟨v1,v2,v3⟩:=v;by_cases h01:v1=0\/v1=1
   ·right;obtain⟨_,hcs⟩:=vB hv;rcases hcs with⟨rfl,rfl,rfl⟩|⟨rfl,rfl,rfl⟩|⟨rfl,rfl,rfl⟩|⟨rfl,rfl⟩|⟨rfl,rfl⟩|⟨rfl,rfl⟩
    ·rfl
    ·rfl
    ·rfl
    ·omega
    ·omega
    ·omega
   ·left;unfold oW;rw[if_neg h01];simp
 ·rw[e] at hr;have hr1:Rest ts k (wd f::b::m):=hr;rw[name_reads hf hr1 aa];simp only[bU];rw[gZ hr1.tail hb];rfl
 ·rw[e] at hr;have hr1:Rest ts k (wd f::sg 46::wd n::b::m):=hr;rw[name_reads hf hr1 aa];simp only[bU];rw[sK hr1.tail aa ab,gZ hr1.tail.tail (by show(true&&(n==[42]))=false;rw[a3o hn 42 ab];rfl)];rfl
 ·rw[e] at hr;have hr1:Rest ts k (wd f::sg 40::(q++b::m)):=(by simpa using hr);rw[name_reads hf hr1 aa];simp only[bU];rw[gZ hr1.tail ab];rfl
theorem first_of{x:Ex}(hc:eH x=true):∃c q,tkE x=c::q/\a9a c:=(a6s _ x (aH _) hc).2
def EndsI(b:kG):Prop:=EndsE b/\bIs b wAs=false
theorem it_reads{ts:List Tok}(hT:lC ts){i:It}(h:d3r i=true)(hd:i.star=false->rY i.x<=60){k:Nat}{b:kG}{m:List kG}(hr:Rest ts k (tkIt i++b::m))(he:EndsI b):d3x ts k= .good (k+(tkIt i).length) i:=by
 obtain⟨star,t,x,al⟩:=i;unfold d3r at h;unfold tkIt at hr⊢;unfold d3x;cases star
 ·simp only[fM,if_false,aQ,beq_iff_eq] at h hr⊢;obtain⟨⟨rfl,hc⟩,hal⟩:=h;rw[named_split] at hr⊢;obtain⟨c,q,e,hcf⟩:=first_of hc;have hr0:Rest ts k (tkE x++((if al=[] then[] else[wd wAs,wd al])++b::m)):=(by simpa using hr);have hr1:Rest ts k (c::(q++((if al=[] then[] else[wd wAs,wd al])++b::m))):=(by rw[e] at hr0;exact hr0);have hsplit:∃b' m',((if al=[] then[] else[wd wAs,wd al])++b::m)=b'::m'/\EndsE b':=by
   split
   ·exact⟨b,m,rfl,he.1⟩
   ·exact⟨wd wAs,_,rfl,endsE_of ae⟩
  obtain⟨b',m',e',he'⟩:=hsplit;have hr2:Rest ts k (tkE x++b'::m'):=(by rw[<-e'];exact hr0);rw[gZ hr1 hcf.2.2];simp only;rw[no_star hc hr2 he'.1.2];simp only;rw[expr_reads hT hc (hd rfl) hr2 he'];simp only[d2u.bind];have hr3:=hr0.app;rw[as_reads hal hr3 he.2];simp only[bD];rw[Nat.add_assoc]
 ·simp only[if_true,aQ,beq_iff_eq] at h hr⊢;obtain⟨⟨hn,rfl⟩,ht⟩:=h;have hx:=none_eq hn;subst hx;split at hr
  ·rename_i h0;subst h0;have hr1:Rest ts k (sg 42::b::m):=hr;rw[take_one hr1 aa ab,if_pos rfl];rfl
  ·rename_i h0;have hN:a6u t:=by
    unfold d3c at ht;simp only[jO,beq_iff_eq] at ht;exact b0e (ht.resolve_left h0)
   have hr1:Rest ts k (wd t::sg 46::sg 42::b::m):=hr;rw[gZ hr1 (by show(true&&(t==[42]))=false;rw[a3o hN 42 ab];rfl)];simp only;rw[name_reads hN hr1 aa];simp only[bU];rw[sK hr1.tail aa ab,take_one hr1.tail.tail aa ab,if_neg h0];rfl
theorem list_reads{α:Type}{ts:List Tok}{one:Nat->d2u α}{tk:α->List kG}(G:kG->Prop)(hG:G (sg 44)):∀(l:List α) (f k:Nat) (acc:List α) (b:kG) (m:List kG),l≠[]->(∀y∈l,∀k b m,Rest ts k (tk y++b::m)->G b->one k= .good (k+(tk y).length) y)->G b->bIs b [44]=false->
  l.length<=f->Rest ts k (lJ (l.map tk)++b::m)->d3o ts one f k acc= .good (k+(lJ (l.map tk)).length) (acc++l)
 |[],_,_,_,_,_,h,_,_,_,_,_=>absurd rfl h
 |_::_,0,_,_,_,_,_,_,_,_,hf,_=>by simp at hf
 |[x],f+1,k,acc,b,m,_,h,hb,hc,_,hr=>by
  have hr1:Rest ts k (tk x++b::m):=hr;unfold d3o;rw[h x aa k b m hr1 hb];simp only[d2u.bind];rw[gZ hr1.app hc];rfl
 |x::y::l,f+1,k,acc,b,m,_,h,hb,hc,hf,hr=>by
  have ej:lJ ((x::y::l).map tk)=tk x++sg 44::lJ ((y::l).map tk):=(by simp[lJ]);have hr1:Rest ts k (tk x++sg 44::(lJ ((y::l).map tk)++b::m)):=(by rw[ej] at hr;simpa using hr);have hr2:=hr1.app;have ih:=list_reads G hG (y::l) f (k+(tk x).length+1) (acc++[x]) b m aa (fun z hz=>h z (by simp[hz])) hb hc (by simp at hf⊢;omega) hr2.tail;unfold d3o;rw[h x aa k (sg 44) _ hr1 hG];simp only[d2u.bind];rw[take_one hr2 aa ab];simp only;rw[ih,ej];simp[Nat.add_assoc,oJ]
theorem join_len{α:Type}{tk:α->List kG}:∀(l:List α),(∀y∈l,1<=(tk y).length)->l.length<=(lJ (l.map tk)).length
 |[],_=>by simp
 |[x],h=>by simpa[lJ] using h x aa
 |x::y::l,h=>by
  have ih:=join_len (y::l) fun z hz=>h z (by simp[hz]);have:=h x aa;have ej:lJ ((x::y::l).map tk)=tk x++sg 44::lJ ((y::l).map tk):=(by simp[lJ]);rw[ej];simp only[aX,bD] at ih⊢;omega
end
end Go.Proofs.YtohlomdapelgeaaGreatDoor
