/- Texts beside the shared ones. -/
import Derived.Test.YtfkekkgfmhcanaaGreatDoorX0
namespace Go.Proofs.YtfkekkgfmhcanaaGreatDoor
open Go.RowKit
open _root_.Bool renaming and_eq_true->aQ,or_eq_true->jO
open _root_.Go.Lib renaming itoa->dQ
open _root_.List renaming all_eq_true->jA,append_assoc->iK
open _root_.Nat renaming le_refl->aH
set_option maxRecDepth 100000
section
def namedTk(l:List kG)(al:List UInt8):List kG:=if al=[] then l else l++[wd wAs,wd al]
def tkSo(s:So):List kG:=namedTk [wd s.t] s.al
def tkIt(i:It):List kG:=if i.star then(if i.t=[] then[sg 42] else[wd i.t,sg 46,sg 42]) else namedTk (tkE i.x) i.al
def tkJo(j:Jo):List kG:=wd d5v::(tkSo j.s++wd wOn::tkE j.on)
def tkOd(o:Od):List kG:=tkE o.x++(if o.down then[wd d4e] else[])
def tkQ(q:Qu):List kG:=
 wd d3h::((if q.distinct then[wd d2s] else[])++(lJ (q.items.map tkIt)++wd d5p::(tkSo q.frm++(q.joins.flatMap tkJo++
 ((if d3i q.wher then[] else wd d6o::tkE q.wher)++((if q.group=[] then[] else wd d4q::wd wBy::lJ (q.group.map tkE))++
 ((if d3i q.having then[] else wd d3v::tkE q.having)++((if q.orders=[] then[] else wd d5n::wd wBy::lJ (q.orders.map tkOd))++
 (if 0<=q.limit then[wd d6p,oW (2,q.limit,[])] else[])))))))))
theorem Lx.app{s t:List UInt8}{a b:List kG}(h:Lx s a)(k:Lx t b)(ht:∀r,yL r->yL (t++r)):Lx (s++t) (a++b):=fun r hr=>by
 rw[iK,h _ (ht r hr),k r hr,d1b]
theorem Lx.nil:Lx [] []:=fun r _=>by simp
theorem Lx.blank{s:List UInt8}{a:List kG}(h:Lx s a):Lx (32::s) a:=fun r hr=>by
 show bt (32::(s++r))=_;rw[nZ,h r hr]
theorem Lx.word{s:List UInt8}(h:Wd s):Lx s [wd s]:=fun r hr=>by rw[mZ h hr,c7u];rfl
theorem end_blank(s r:List UInt8):yL (32::s++r):=yL.of _ (by decide) (by decide)
theorem Lx.then{s t:List UInt8}{a b:List kG}(h:Lx s a)(k:Lx t b):Lx (s++32::t) (a++b):=h.app k.blank fun r _=>end_blank t r
theorem word_as:Wd wAs:=⟨97,[115],rfl,by decide,by decide,by decide⟩
theorem named_lx{s al:List UInt8}{a:List kG}(h:Lx s a)(has:d3c al=true):Lx (d4t s al) (namedTk a al):=by
 unfold d4t namedTk;split
 ·exact h
 ·rename_i h0;have hn:mO al=true:=by
   unfold d3c at has;simp only[jO,beq_iff_eq] at has;exact has.resolve_left h0
  have:=(h.then (Lx.word word_as)).then (Lx.word (rO hn).1)
  simpa[iK] using this
theorem so_lx{s:So}(h:d4c s=true):Lx (d4g s) (tkSo s):=by
 unfold d4c at h;simp only[aQ] at h;exact named_lx (Lx.word (rO h.1).1) h.2
theorem it_lx{i:It}(h:d3r i=true)(hf:Fits i.x):Lx (d5x i) (tkIt i):=by
 unfold d3r at h;unfold d5x tkIt;split
 ·rename_i hs;rw[if_pos hs] at h;simp only[aQ,beq_iff_eq] at h;split
  ·intro r _;show bt (42::r)=_;rw[qF 42 (by simp),c7u];rfl
  ·rename_i h0;have hn:mO i.t=true:=by
    have:=h.2;unfold d3c at this;simp only[jO,beq_iff_eq] at this;exact this.resolve_left h0
   intro r _;have e:i.t++[46,42]++r=i.t++(46::42::r):=(by simp);rw[e,mZ (rO hn).1 (yL.of _ (by decide) (by decide)),qF 46 (by simp),qF 42 (by simp)];generalize bt r=z;cases z<;>simp[sg,wd]
 ·rename_i hs;rw[if_neg hs] at h;simp only[aQ,beq_iff_eq] at h;exact named_lx (b4o _ i.x (aH _) h.1.2 hf) h.2
theorem join_lx{α:Type}(tx:α->List UInt8)(tk:α->List kG):∀(l:List α),(∀y∈l,Lx (tx y) (tk y))->l≠[]->Lx (jR [44,32] (l.map tx)) (lJ (l.map tk))
 |[],_,h=>absurd rfl h
 |[x],h,_=>h x (by simp)
 |x::y::l,h,_=>by
  intro r hr;have ih:=join_lx tx tk (y::l) (fun z hz=>h z (by simp[hz])) (by simp) r hr;have e:jR [44,32] ((x::y::l).map tx)++r=tx x++(44::32::(jR [44,32] ((y::l).map tx)++r)):=by
   simp[jR]
  have e2:lJ ((x::y::l).map tk)=tk x++(sg 44::lJ ((y::l).map tk)):=(by simp[lJ]);rw[e,e2,h x (by simp) _ (yL.of _ (by decide) (by decide)),qF 44 (by simp),nZ,ih];rw[show((3,[44],(0,0,[])):kG)=sg 44 from rfl,c3j,d1b]
def Bl32(o:List UInt8):Prop:=o=[]\/∃s,o=32::s
theorem Bl32.fin{o:List UInt8}(h:Bl32 o):∀r,yL r->yL (o++r):=by
 intro r hr;rcases h with rfl|⟨s,rfl⟩
 ·exact hr
 ·exact end_blank s r
theorem kw_where:Wd d6o:=⟨119,[104,101,114,101],rfl,by decide,by decide,by decide⟩
theorem kw_select:Wd d3h:=⟨115,[101,108,101,99,116],rfl,by decide,by decide,by decide⟩
theorem kw_distinct:Wd d2s:=⟨100,[105,115,116,105,110,99,116],rfl,by decide,by decide,by decide⟩
theorem kw_from:Wd d5p:=⟨102,[114,111,109],rfl,by decide,by decide,by decide⟩
theorem kw_join:Wd d5v:=⟨106,[111,105,110],rfl,by decide,by decide,by decide⟩
theorem kw_on:Wd wOn:=⟨111,[110],rfl,by decide,by decide,by decide⟩
theorem kw_group:Wd d4q:=⟨103,[114,111,117,112],rfl,by decide,by decide,by decide⟩
theorem kw_by:Wd wBy:=⟨98,[121],rfl,by decide,by decide,by decide⟩
theorem kw_having:Wd d3v:=⟨104,[97,118,105,110,103],rfl,by decide,by decide,by decide⟩
theorem kw_order:Wd d5n:=⟨111,[114,100,101,114],rfl,by decide,by decide,by decide⟩
theorem kw_desc:Wd d4e:=⟨100,[101,115,99],rfl,by decide,by decide,by decide⟩
theorem kw_limit:Wd d6p:=⟨108,[105,109,105,116],rfl,by decide,by decide,by decide⟩
theorem jo_lx{j:Jo}(h:d4c j.s=true)(hc:eH j.on=true)(hf:Fits j.on):Lx (e0o j) (tkJo j):=by
 have h1:=((Lx.word kw_join).then (so_lx h)).then (Lx.word kw_on)
 have h2:=(h1.then (b4o _ j.on (aH _) hc hf)).blank;unfold e0o tkJo;simpa[iK] using h2
theorem od_lx{o:Od}(hc:eH o.x=true)(hf:Fits o.x):Lx (d4r o) (tkOd o):=by
 have h1:=b4o _ o.x (aH _) hc hf;unfold d4r tkOd;split
 ·have:=h1.then (Lx.word kw_desc)
  simpa[iK] using this
 ·simpa using h1
theorem jos_lx:∀(l:List Jo),(∀j∈l,d4c j.s=true/\eH j.on=true/\Fits j.on)->Lx (l.flatMap e0o) (l.flatMap tkJo)/\Bl32 (l.flatMap e0o)
 |[],_=>⟨Lx.nil,.inl rfl⟩
 |j::l,h=>by
  obtain⟨h1,h2,h3⟩:=h j (by simp);obtain⟨ih,ihb⟩:=jos_lx l fun k hk=>h k (by simp[hk]);refine⟨?_,.inr ⟨_,by simp[e0o];rfl⟩⟩;rw[List.flatMap_cons,List.flatMap_cons];exact(jo_lx h1 h2 h3).app ih ihb.fin
structure FitsQ(q:Qu):Prop where
 items:∀i∈q.items,Fits i.x
 joins:∀j∈q.joins,Fits j.on
 wher:Fits q.wher
 group:∀x∈q.group,Fits x
 having:Fits q.having
 orders:∀o∈q.orders,Fits o.x
 limit:I64 q.limit
theorem chk_int(n:Int):chk 2 n []=0:=by simp[chk]
theorem lit_int(n:Int):lit 2 n []=dQ n:=by unfold lit;rw[if_neg (by decide),if_neg (by decide),if_pos rfl]
theorem opt_lx{w:List UInt8}(hw:Wd w){x:Ex}(h:d3i x=true\/eH x=true)(hf:Fits x):Lx (if d3i x then[] else[32]++w++[32]++eY x) (if d3i x then[] else wd w::tkE x)/\Bl32 (if d3i x then[] else[32]++w++[32]++eY x):=by
 split
 ·exact⟨Lx.nil,.inl rfl⟩
 ·rename_i hn;have hc:=h.resolve_left hn;have:=((Lx.word hw).then (b4o _ x (aH _) hc hf)).blank;exact⟨by simpa[iK] using this,.inr ⟨_,by simp;rfl⟩⟩
theorem two_lx{w v:List UInt8}(hw:Wd w)(hv:Wd v){α:Type}(tx:α->List UInt8)(tk:α->List kG)(l:List α)(h:∀y∈l,Lx (tx y) (tk y))(e:Prop)[Decidable e](he:e↔l=[]):
  Lx (if e then[] else[32]++w++[32]++v++[32]++jR [44,32] (l.map tx)) (if e then[] else wd w::wd v::lJ (l.map tk))/\Bl32 (if e then[] else[32]++w++[32]++v++[32]++jR [44,32] (l.map tx)):=by
 split
 ·exact⟨Lx.nil,.inl rfl⟩
 ·rename_i hn;have:=(((Lx.word hw).then (Lx.word hv)).then (join_lx tx tk l h (fun e0=>hn (he.2 e0)))).blank;exact⟨by simpa[iK] using this,.inr ⟨_,by simp;rfl⟩⟩
theorem q_lx{q:Qu}(h:looseQ q=true)(hf:FitsQ q):Lx (d8n q) (tkQ q):=by
 unfold looseQ at h;simp only[aQ,jO,decide_eq_true_eq,jA] at h;obtain⟨⟨⟨⟨⟨⟨⟨⟨hi0,hi⟩,hs⟩,hw⟩,hh⟩,_⟩,hj⟩,hg⟩,ho⟩:=h;have hI:=join_lx d5x tkIt q.items (fun i hm=>it_lx (hi i hm) (hf.items i hm)) (by intro e;rw[e] at hi0;simp at hi0);have hA:Lx (d3h++[32]++(if q.distinct then d2s++[32] else[])++d5q q.items++[32]++d5p++[32]++d4g q.frm) (wd d3h::((if q.distinct then[wd d2s] else[])++(lJ (q.items.map tkIt)++wd d5p::tkSo q.frm))):=by
  have h1:Lx (d3h++32::((if q.distinct then d2s++[32] else[])++d5q q.items)) (wd d3h::((if q.distinct then[wd d2s] else[])++lJ (q.items.map tkIt))):=by
   cases q.distinct
   ·exact(Lx.word kw_select).then hI
   ·have:=(Lx.word kw_select).then ((Lx.word kw_distinct).then hI)
    simpa[d5q] using this
  have:=(h1.then (Lx.word kw_from)).then (so_lx hs)
  simpa[iK] using this
 obtain⟨hJ,eJ⟩:=jos_lx q.joins fun j hm=>⟨(hj j hm).1,(hj j hm).2,hf.joins j hm⟩
 obtain⟨hW,eW⟩:=opt_lx kw_where hw hf.wher;obtain⟨hG,eG⟩:=two_lx kw_group kw_by eY tkE q.group (fun x hm=>b4o _ x (aH _) (hg x hm) (hf.group x hm)) (q.group=[]) Iff.rfl;obtain⟨hH,eH⟩:=opt_lx kw_having (hh.imp id And.left) hf.having;obtain⟨hO,eO⟩:=two_lx kw_order kw_by d4r tkOd q.orders (fun o hm=>od_lx (ho o hm) (hf.orders o hm)) (q.orders=[]) Iff.rfl;have hL:Lx (if 0<=q.limit then[32]++d6p++[32]++dQ q.limit else[]) (if 0<=q.limit then[wd d6p,oW (2,q.limit,[])] else[])/\Bl32 (if 0<=q.limit then[32]++d6p++[32]++dQ q.limit else[]):=by
  split
  ·rename_i h0;have hv:Lx (dQ q.limit) [oW (2,q.limit,[])]:=fun r hr=>by
    have:=c6w (chk_int q.limit) hf.limit (fun _=>h0) hr;rw[lit_int] at this;rw[this,c7u]
   have:=((Lx.word kw_limit).then hv).blank;exact⟨by simpa[iK] using this,.inr ⟨_,by simp;rfl⟩⟩
  ·exact⟨Lx.nil,.inl rfl⟩
 have:=(((((hA.app hJ eJ.fin).app hW eW.fin).app hG eG.fin).app hH eH.fin).app hO eO.fin).app hL.1 hL.2.fin;unfold d8n tkQ;simpa[iK] using this
end
end Go.Proofs.YtfkekkgfmhcanaaGreatDoor
