/- Texts beside the shared ones. -/
import Derived.Test.YtfkekkgfmhcanaaGreatDoorX0
import Derived.Test.YtfkekkgfmhcanaaGreatDoorQ5
namespace Go.Proofs.YtfkekkgfmhcanaaGreatDoor
open Go.RowKit
open _root_.Bool renaming and_eq_true->aQ,or_eq_true->jO
open _root_.List renaming all_eq_true->jA,append_assoc->iK,length->lV,length_append->bD,length_cons->aX,length_nil->bL,map_append->kW,nil_append->cB
open _root_.Nat renaming zero_add->gD,zero_le->dL
open _root_.Option renaming map_some->lX
set_option maxRecDepth 100000
section
structure DeepQ(q:Qu):Prop where
 items:∀i∈q.items,rY i.x<=60
 joins:∀j∈q.joins,rY j.on<=60
 wher:rY q.wher<=60
 group:∀x∈q.group,rY x<=60
 having:rY q.having<=60
 orders:∀o∈q.orders,rY o.x<=60
theorem tkE_pos{x:Ex}(h:eH x=true):1<=(tkE x).length:=by
 obtain⟨c,q,e,_⟩:=first_of h;rw[e];simp
theorem tkIt_pos{i:It}(h:d3r i=true):1<=(tkIt i).length:=by
 obtain⟨c,q,e,_⟩:=it_first h;rw[e];simp
theorem jo_count(l:List Jo):l.length<=(l.flatMap tkJo).length:=by
 induction l with
 |nil=>simp
 |cons j l ih=>simp[tkJo] at ih⊢;omega
theorem Rest.short{ts:List Tok}{k:Nat}{l m:List kG}(h:Rest ts k (l++m))(hk:k<=ts.length):k+l.length+m.length=ts.length:=by
 unfold Rest at h;have:=congrArg lV h;simp at this;omega
theorem if_head{p:Prop}[Decidable p]{w:List UInt8}{q:List kG}:(if p then[] else wd w::q:List kG)=[]\/∃r,(if p then[] else wd w::q:List kG)=wd w::r:=by
 split
 ·exact .inl rfl
 ·exact .inr ⟨_,rfl⟩
theorem query_reads{ts:List Tok}(hT:lC ts){q:Qu}(h:looseQ q=true)(hd:DeepQ q){K:Nat}(hK:K<=ts.length){R:List kG}(hR:HeadIn afterW R)(hr:Rest ts K (tkQ q++R)):d6b ts K= .good (K+(tkQ q).length) q:=by
 have hlen:=hr.short hK;have h0:=h;unfold looseQ at h;simp only[aQ,jO,decide_eq_true_eq,jA] at h;obtain⟨⟨⟨⟨⟨⟨⟨⟨hi0,hi⟩,hs⟩,hw⟩,hh⟩,hlim⟩,hj⟩,hg⟩,ho⟩:=h;obtain⟨distinct,items,frm,joins,wher,group,having,orders,limit⟩:=q;simp only at hi0 hi hs hw hh hlim hj hg ho;obtain⟨d1,d2,d3,d4,d5,d6⟩:=hd;simp only at d1 d2 d3 d4 d5 d6;obtain⟨L,hL⟩:∃L:List kG,L=(if 0<=limit then[wd d6p,oW (2,limit,[])] else[]):=⟨_,rfl⟩
 obtain⟨O,hO⟩:∃O:List kG,O=(if orders=[] then[] else wd d5n::wd wBy::lJ (orders.map tkOd)):=⟨_,rfl⟩
 obtain⟨V,hV⟩:∃V:List kG,V=(if d3i having then[] else wd d3v::tkE having):=⟨_,rfl⟩
 obtain⟨G,hG⟩:∃G:List kG,G=(if group=[] then[] else wd d4q::wd wBy::lJ (group.map tkE)):=⟨_,rfl⟩
 obtain⟨Wh,hWh⟩:∃Wh:List kG,Wh=(if d3i wher then[] else wd d6o::tkE wher):=⟨_,rfl⟩
 have H9:HeadIn (d6p::afterW) (L++R):=hR.seg (by rw[hL];split;exact .inr ⟨_,rfl⟩;exact .inl rfl);have H8:HeadIn (d5n::d6p::afterW) (O++(L++R)):=H9.seg (by rw[hO];exact if_head);have H7:HeadIn (d3v::d5n::d6p::afterW) (V++(O++(L++R))):=H8.seg (by rw[hV];exact if_head);have H6:HeadIn (d4q::d3v::d5n::d6p::afterW) (G++(V++(O++(L++R)))):=H7.seg (by rw[hG];exact if_head);have H5:HeadIn (d6o::d4q::d3v::d5n::d6p::afterW) (Wh++(G++(V++(O++(L++R))))):=H6.seg (by rw[hWh];exact if_head);have H4:HeadIn behindW (joins.flatMap tkJo++(Wh++(G++(V++(O++(L++R)))))):=H5.seg (by
  cases joins with
  |nil=>exact .inl rfl
  |cons a l=>exact .inr ⟨_,by simp[tkJo];rfl⟩)
 have etk:tkQ ⟨distinct,items,frm,joins,wher,group,having,orders,limit⟩=wd d3h::((if distinct then[wd d2s] else[])++(lJ (items.map tkIt)++wd d5p::(tkSo frm++(joins.flatMap tkJo++(Wh++(G++(V++(O++L)))))))):=by
  unfold tkQ;rw[hL,hO,hV,hG,hWh]
 rw[etk] at hr hlen⊢;have r0:Rest ts K (wd d3h::((if distinct then[wd d2s] else[])++(lJ (items.map tkIt)++wd d5p::(tkSo frm++(joins.flatMap tkJo++(Wh++(G++(V++(O++(L++R)))))))))):=(by simpa[iK] using hr);have r1:=r0.tail;have hne:items≠[]:=(by intro e;rw[e] at hi0;simp at hi0);obtain⟨kd,hkd,hsome,r2⟩:∃kd,(bH ts (K+1) [d2s]).getD (K+1)=kd/\(bH ts (K+1) [d2s]).isSome=distinct/\Rest ts kd (lJ (items.map tkIt)++wd d5p::(tkSo frm++(joins.flatMap tkJo++(Wh++(G++(V++(O++(L++R)))))))):=by
  cases distinct
  ·have r1':Rest ts (K+1) (lJ (items.map tkIt)++wd d5p::(tkSo frm++(joins.flatMap tkJo++(Wh++(G++(V++(O++(L++R)))))))):=r1;obtain⟨c,t,e,hc⟩:∃c t,lJ (items.map tkIt)=c::t/\bIs c d2s=false:=by
    match items,hne with
    |[i],_=>exact it_first (hi i (by simp))
    |i::i2::l,_=>
     obtain⟨c,t,e,hc⟩:=it_first (hi i (by simp));exact⟨c,t++sg 44::lJ ((i2::l).map tkIt),by simp[lJ,e],hc⟩
   have r1c:=r1';rw[e] at r1c;have hno:bH ts (K+1) [d2s]=none:=gZ r1c hc _;exact⟨K+1,by rw[hno];rfl,by rw[hno];rfl,r1'⟩
  ·have r1':Rest ts (K+1) (wd d2s::(lJ (items.map tkIt)++wd d5p::(tkSo frm++(joins.flatMap tkJo++(Wh++(G++(V++(O++(L++R))))))))):=r1;have hyes:=take_one r1' (by simp) (s:=d2s) (by decide);exact⟨K+1+1,by rw[hyes];rfl,by rw[hyes];rfl,r1'.tail⟩
 have hkdl:kd<=ts.length:=by
  have:(bH ts (K+1) [d2s]).getD (K+1)<=K+2:=by
   cases distinct
   ·have:bH ts (K+1) [d2s]=none:=by simpa using hsome
    rw[this];simp
   ·have r1':Rest ts (K+1) (wd d2s::_):=r1;have hyes:=take_one r1' (by simp) (s:=d2s) (by decide);rw[hyes];simp
  have:K+2<=ts.length:=(by have e:=hlen;simp only[aX,bD,bL] at e;omega);omega
 have s2:=r2.short hkdl;have hit:d7m ts kd= .good (kd+(lJ (items.map tkIt)).length) items:=by
  have:=list_reads (ts:=ts) (one:=d3x ts) (tk:=tkIt) EndsI ⟨endsE_of (by decide),by decide⟩ items ts.length kd [] (wd d5p) _ hne (fun i hm k b m hr he=>it_reads hT (hi i hm) (fun _=>d1 i hm) hr he) ⟨endsE_of (by decide),by decide⟩ (by decide) (by
   have:=join_len (tk:=tkIt) items fun i hm=>tkIt_pos (hi i hm);omega) r2
  simpa[d7m] using this
 have r3:=r2.app;have r4:=r3.tail;obtain⟨b4,m4,e4,hb4⟩:=H4;have r4':=r4;rw[e4] at r4';have hso:=so_reads hs r4' (ok_parts (behind_ok hb4)).2.1;have r5:=r4.app;have l6:∀{k:Nat} {l m:List kG},Rest ts k (l++m)->k<=ts.length->k+l.length<=ts.length:=fun hq hk=>by
  have:=hq.short hk;omega
 have k3:=l6 r2 hkdl;have k4:kd+(lJ (items.map tkIt)).length+1<=ts.length:=(by have:=r3.lt;omega);have k5:=l6 r4 k4;have hjo:=jos_reads hT joins ts.length _ [] _ (fun j hm=>⟨(hj j hm).1,(hj j hm).2,d2 j hm⟩) H5 (by
  have c:=jo_count joins;have e:=r5.short k5;obtain⟨b5,m5,e5,_⟩:=H5;rw[e5] at e;simp only[aX] at e;omega) r5
 have r6:=r5.app;obtain⟨b6,m6,e6,hb6⟩:=H6;have r6':=r6;rw[hWh,e6] at r6';have ok6:=ok_parts (behind_ok (hb6.imp id fun⟨w,hw,e⟩=>⟨w,by revert hw;simp;intro hw;simp[hw],e⟩));have hwh:=maybe_reads hT (by decide) hw d3 r6' ok6.1 (head_all (p:=fun b=>bIs b d6o=false) (by decide) (by decide) hb6);rw[<-hWh] at hwh;have r7:=r6.app;obtain⟨b7,m7,e7,hb7⟩:=H7;have ok7:=ok_parts (behind_ok (hb7.imp id fun⟨w,hw,e⟩=>⟨w,by revert hw;simp;intro hw;simp[hw],e⟩));have hgr:d4v ts (0+1)=d4v ts (0+1):=rfl;clear hgr;have hgr:∀k,Rest ts k (G++(V++(O++(L++R))))->k<=ts.length->d4v ts k= .good (k+G.length) group:=by
  intro k hk hkl;unfold d4v;by_cases hg0:group=[]
  ·rw[if_pos hg0] at hG;subst hG;rw[e7] at hk;have hk':Rest ts k (b7::m7):=hk;rw[gZ hk' (head_all (p:=fun b=>bIs b d4q=false) (by decide) (by decide) hb7),hg0];rfl
  ·rw[if_neg hg0] at hG;have hsh:=hk.short hkl;subst hG;have hk':Rest ts k (wd d4q::wd wBy::(lJ (group.map tkE)++b7::m7)):=(by rw[e7] at hk;simpa using hk);rw[sK hk' (by simp) (by decide),take_one hk'.tail (by simp) (by decide)];simp only;have:=list_reads (ts:=ts) (one:=d3j ts) (tk:=tkE) EndsE (endsE_of (by decide)) group ts.length (k+1+1) [] b7 m7 hg0 (fun x hm k b m hr he=>expr_reads hT (hg x hm) (d4 x hm) hr he) ok7.1 ok7.2.2.1 (by
    have:=join_len (tk:=tkE) group fun x hm=>tkE_pos (hg x hm);simp at hsh;omega) hk'.tail.tail
   rw[this,cB]
   congr 1
   simp only[aX];omega
 have r8:=r7.app;obtain⟨b8,m8,e8,hb8⟩:=H8;have ok8:=ok_parts (behind_ok (hb8.imp id fun⟨w,hw,e⟩=>⟨w,by revert hw;simp;intro hw;simp[hw],e⟩));have hhv:∀k,Rest ts k (V++(O++(L++R)))->d5u ts group k= .good (k+V.length) having:=by
  intro k hk;unfold d5u;split
  ·rename_i hg0;have hn:d3i having=true:=by
    rcases hh with hn|⟨_,hp⟩
    ·exact hn
    ·rw[hg0] at hp;simp at hp
   rw[if_pos hn] at hV;subst hV;rw[none_eq hn];rfl
  ·rw[hV,e8] at hk;have:=maybe_reads hT (by decide) (hh.imp id And.left) d5 hk ok8.1 (head_all (p:=fun b=>bIs b d3v=false) (by decide) (by decide) hb8);rw[this,<-hV]
 obtain⟨b9,m9,e9,hb9⟩:=H9;have ok9:=behind_ok (hb9.imp id fun⟨w,hw,e⟩=>⟨w,by revert hw;simp;intro hw;simp[hw],e⟩);have hor:∀k,Rest ts k (O++(L++R))->k<=ts.length->d5s ts k= .good (k+O.length) orders:=by
  intro k hk hkl;unfold d5s;by_cases ho0:orders=[]
  ·rw[if_pos ho0] at hO;subst hO;rw[e9] at hk;have hk':Rest ts k (b9::m9):=hk;rw[gZ hk' (head_all (p:=fun b=>bIs b d5n=false) (by decide) (by decide) hb9),ho0];rfl
  ·rw[if_neg ho0] at hO;have hsh:=hk.short hkl;subst hO;have hk':Rest ts k (wd d5n::wd wBy::(lJ (orders.map tkOd)++b9::m9)):=(by rw[e9] at hk;simpa using hk);rw[sK hk' (by simp) (by decide),take_one hk'.tail (by simp) (by decide)];simp only;have:=list_reads (ts:=ts) (one:=d3f ts) (tk:=tkOd) (fun b=>EndsE b/\bIs b e6b=false/\bIs b d4e=false) ⟨endsE_of (by decide),by decide,by decide⟩ orders ts.length (k+1+1) [] b9 m9 ho0 (fun o hm k b m hr he=>od_reads hT (ho o hm) (d6 o hm) hr he) ⟨(ok_parts ok9).1,(ok_parts ok9).2.2.2.1,(ok_parts ok9).2.2.2.2⟩ (ok_parts ok9).2.2.1 (by
    have:=join_len (tk:=tkOd) orders fun o hm=>by
     have:=tkE_pos (ho o hm);unfold tkOd;simp;omega
    simp at hsh;omega) hk'.tail.tail
   rw[this,cB]
   congr 1
   simp only[aX];omega
 have hli:∀k,Rest ts k (L++R)->d8h ts k= .good (k+L.length) limit:=by
  intro k hk;rw[hL] at hk⊢;obtain⟨b,m,e,hb⟩:=hR;rw[e] at hk;exact limit_reads hlim hk (head_all (p:=fun b=>bIs b d6p=false) (by decide) (by decide) hb)
 have k6:=l6 r5 k5;have k7:=l6 r6 k6;have k8:=l6 r7 k7;have r9:=r8.app;have k9:=l6 r8 k8;have r10:=r9.app;have rend:=r10.app;have hQ:d6b ts K= .good (kd+(lJ (items.map tkIt)).length+1+(tkSo frm).length+(joins.flatMap tkJo).length+Wh.length+G.length+V.length+O.length+L.length) ⟨distinct,items,frm,joins,wher,group,having,orders,limit⟩:=by
  unfold d6b;rw[take_one r0 (by simp) (by decide)];simp only;rw[hkd,hsome,hit];simp only[d2u.bind];rw[take_one r3 (by rw[e4];simp) (by decide)];simp only;rw[hso];simp only;rw[hjo];simp only[cB];rw[hwh];simp only;rw[hgr _ r7 k7];simp only;rw[hhv _ r8];simp only;rw[hor _ r9 k9];simp only;rw[hli _ r10]
 rw[hQ]
 congr 1
 have hkd2:kd=K+1+(if distinct then[wd d2s] else[]:List kG).length:=by
  cases distinct
  ·have:bH ts (K+1) [d2s]=none:=by simpa using hsome
   rw[this] at hkd;simpa using hkd.symm
  ·have r1':Rest ts (K+1) (wd d2s::_):=r1;rw[take_one r1' (by simp) (s:=d2s) (by decide)] at hkd;simpa using hkd.symm
 rw[hkd2];simp;omega
theorem loose_reads{q:Qu}(h:looseQ q=true)(hf:FitsQ q)(hd:DeepQ q):∃ts,jQ (d8n q)=some ts/\d6b (ts++[eT (d8n q).length]) 0= .good ts.length q:=by
 have h1:=q_lx h hf [] yL.nil;rw[List.append_nil,c6x] at h1;simp only[lX,List.append_nil] at h1;obtain⟨ts,h2,h3⟩:=c3z h1 (d8n q).length;have hr:Rest (ts++[eT (d8n q).length]) 0 (tkQ q++[endB]):=by
  unfold Rest;rw[kW,h3];rfl
 have hR:=query_reads (a4t h2) h hd (dL _) ⟨endB,[],rfl,.inl rfl⟩ hr;rw[gD] at hR;have hlen:(tkQ q).length=ts.length:=(by rw[<-h3];simp);exact⟨ts,h2,by rw[hR,hlen]⟩
theorem parseQ_text{q:Qu}(h:d3e q=true)(hf:FitsQ q)(hd:DeepQ q)(hl:(d8n q).length<=4000):d2r (d8n q)=(0,q):=by
 obtain⟨h1,h0⟩:=right_loose h;obtain⟨ts,h2,h3⟩:=loose_reads h1 hf hd;unfold d2r;rw[if_neg (by omega),show jQ (d8n q)=some ts from h2];simp only;unfold d5c;rw[h3];simp only[d2u.bind];rw[h0,if_neg (by simp)];simp[eT]
end
end Go.Proofs.YtfkekkgfmhcanaaGreatDoor
