/- Texts N5 SF. -/
import Derived.Test.YtohlomdapelgeaaGreatDoorAQ
import Derived.Test.YtohlomdapelgeaaGreatDoorAE
namespace Go.Proofs.YtohlomdapelgeaaGreatDoor
open _root_.Go.Proofs.Tryz
open Go.RowKit
open _root_.Bool renaming and_eq_true->aQ,false_eq_true->fM,not_eq_true'->nT,or_eq_true->jO
open _root_.Go.Lib renaming cell_of_heap->aG,hid->aB
open _root_.List renaming all_eq_true->jA,append_assoc->iK,cons_append->bE,isEmpty_iff->iZ,length->lV,length_append->bD,length_cons->aX,length_nil->bL,map_append->kW,nil_append->cB
open _root_.Option renaming map_some->lX
set_option maxRecDepth 100000
set_option maxHeartbeats 8000000
section
structure DeepW(w:Wr):Prop where
 rows:∀l∈w.rows,∀x∈l,rY x<=60
 query:DeepQ w.query
 sets:∀s∈w.sets,rY s.x<=60
 wher:rY w.wher<=60
 on:rY w.on<=60
 whens:∀x∈w.whens,DeepWn x
 ret:∀i∈w.ret,rY i.x<=60
theorem end_ok2{S:List (List UInt8)}(hS:∀w∈S,w∈endW){b:kG}(hb:b=endB\/∃w∈S,b=wd w):EndsE b/\bIs b wAs=false/\bIs b [44]=false:=by
 have:=ok_parts (end_ok (hb.imp id fun⟨w,hw,e⟩=>⟨w,hS w hw,e⟩));exact⟨this.1,this.2.1,this.2.2.1⟩
theorem confl_reads{ts:List Tok}(hT:lC ts){w:Wr}(h:(if w.act=0 then w.conf.isEmpty&&w.sets.isEmpty&&d3i w.wher else if w.act=1 then namesL w.conf 1&&w.sets.isEmpty&&d3i w.wher else if w.act=2 then namesL w.conf 1&&setsL w.sets&&mayB w.wher else false)=true)
  (hd:DeepW w) {k:Nat} {R:List kG} (_hk:k<=ts.length) (hR:HeadIn [wReturning] R) (hr:Rest ts k (conflTk w++R)):
  conflictR ts k= .good (k+(conflTk w).length) (w.conf,w.act,w.sets,w.wher):=by
 obtain⟨b,m,eR,hb⟩:=hR;obtain⟨he,has,hcm⟩:=end_ok2 (S:=[wReturning]) aa hb;unfold conflTk at hr⊢;unfold conflictR;by_cases h0:w.act=0
 ·rw[if_pos h0] at h hr⊢;simp only[aQ,iZ] at h;have hr1:Rest ts k (b::m):=(by rw[eR] at hr;exact hr);rw[gZ hr1 (head_all (p:=fun b=>bIs b wOn=false) ab ab hb),h.1.1,h.1.2,none_eq h.2,h0];rfl
 rw[if_neg h0] at h hr⊢;have hc:namesL w.conf 1=true:=by
  split at h
  ·simp only[aQ] at h;exact h.1.1
  ·split at h
   ·simp only[aQ] at h;exact h.1.1
   ·cases h
 have hc0:w.conf≠[]:=by
  intro e;rw[e] at hc;simp[namesL] at hc
 have hr1:Rest ts k (wd wOn::wd wConflict::(listedTk w.conf++(doTk w++R))):=(by simpa using hr);obtain⟨d,dm,ed,hd40⟩:∃d dm,doTk w++R=d::dm/\bIs d [40]=false:=by
  unfold doTk;split
  ·exact⟨_,_,rfl,by decide⟩
  ·exact⟨_,_,rfl,by decide⟩
 have hr2:=hr1.tail.tail;have hk2:k+1+1<=ts.length:=(by have:=hr1.tail.lt;omega);have hn:=names_reads hc true (fun _=>hc0) hk2 (by rw[ed] at hr2;exact hr2) hd40;have hr3:=hr2.app;have hk3:k+1+1+(listedTk w.conf).length<=ts.length:=(by rw[ed] at hr3;have:=hr3.lt;omega);rw[need_two ab ab hr1 (by rw[ed];simp)];simp only;rw[hn];simp only[d2u.bind];unfold doR;unfold doTk at hr3⊢;by_cases h1:w.act=1
 ·rw[if_pos h1] at h hr3⊢;simp only[aQ,iZ] at h;have hr4:Rest ts (k+1+1+(listedTk w.conf).length) (wd wDo::wd wNothing::R):=hr3;rw[need_two ab ab hr4 (by rw[eR];simp),h.1.2,none_eq h.2,h1];simp only
  congr 1
  simp;omega
 rw[if_neg h1] at h hr3⊢;by_cases h2:w.act=2
 ·rw[if_pos h2] at h;simp only[aQ] at h;have hr4:Rest ts (k+1+1+(listedTk w.conf).length) (wd wDo::wd wUpdate::wd wSet::(setsTk w.sets++(optTk d6o w.wher++R))):=(by simpa using hr3);have hno:bH ts (k+1+1+(listedTk w.conf).length) [wDo,wNothing]=none:=(by rw[sK hr4 aa ab,gZ hr4.tail ab]);rw[hno];simp only;unfold needR;rw[need_two ab ab hr4 aa];simp only[d2u.bind];obtain⟨s,sm,es,hs⟩:HeadIn [d6o,wReturning] (optTk d6o w.wher++R):=(show HeadIn [wReturning] R from⟨b,m,eR,hb⟩).seg (by unfold optTk;exact if_head);obtain⟨hse,_,hsc⟩:=end_ok2 (S:=[d6o,wReturning]) ab hs;have hr5:=hr4.tail.tail;have hk5:k+1+1+(listedTk w.conf).length+1+1<=ts.length:=(by have:=hr4.tail.lt;omega);have hr5':=hr5;rw[es] at hr5';rw[sets_reads hT h.1.2 hd.sets hk5 hr5' hse hsc];simp only;have hr6:=hr5.tail.app;rw[eR] at hr6;have:=maybe_reads hT (w:=d6o) ab (may_of h.2) hd.wher hr6 he (head_all (p:=fun b=>bIs b d6o=false) ab ab hb);rw[this];simp only;rw[h2]
  congr 1
  simp only[aX,bD,optTk];omega
 ·rw[if_neg h2] at h;cases h
theorem rowTk_pos(l:List Ex):1<=(rowTk l).length:=by simp[rowTk]
theorem insert_reads{ts:List Tok}(hT:lC ts){w:Wr}(h:rightInL w=true)(hq0:w.hasQ=false->w.query=d3z)(hd:DeepW w){k:Nat}{R:List kG}(hk:k<=ts.length)(hR:HeadIn [wReturning] R)
  (hr:Rest ts k (listedTk w.cols++((if w.hasQ then tkQ w.query else wd wValues::lJ (w.rows.map rowTk))++(conflTk w++R)))):
  insertR ts w.into k= .good (k+(listedTk w.cols).length+(if w.hasQ then tkQ w.query else wd wValues::lJ (w.rows.map rowTk)).length+(conflTk w).length) ⟨1,w.into,w.cols,w.rows,w.hasQ,w.query,w.conf,w.act,w.sets,w.wher,⟨[],[]⟩,zeroE,[],[]⟩:=by
 unfold rightInL at h;simp only[aQ,jA] at h;obtain⟨⟨⟨hcols,hq⟩,hrows⟩,hc⟩:=h;have hH:HeadIn afterW (conflTk w++R):=hR.seg (by
  unfold conflTk;exact if_head)
 have hr1:=hr.app;unfold insertR;cases hh:w.hasQ
 ·rw[hh] at hq hr hr1;simp only[fM,if_false,decide_eq_true_eq] at hq hr hr1⊢;have h0:w.rows≠[]:=(by intro e;rw[e] at hq;simp at hq);rw[names_reads hcols false aa hk hr ab];simp only[d2u.bind];rw[hq0 hh];have hk1:k+(listedTk w.cols).length<ts.length:=(by have:=hr1.lt;omega);obtain⟨b,m,eb,hb⟩:=hH;have hr1':Rest ts (k+(listedTk w.cols).length) (wd wValues::(lJ (w.rows.map rowTk)++b::m)):=(by rw[eb] at hr1;exact hr1);rw[take_one hr1' aa ab];simp only;have hs:=Rest.short (l:=[]) hr1' aE;have hl:=list_reads (ts:=ts) (one:=rowR ts) (tk:=rowTk) (fun _=>True) trivial w.rows ts.length (k+(listedTk w.cols).length+1) [] b m h0
   (fun l hl k b m hr _=>row_reads hT (hrows l hl) (hd.rows l hl) (by by_cases hkk:k<=ts.length;exact hkk;exfalso;unfold Rest at hr;rw[List.drop_eq_nil_of_le ak] at hr;exact absurd (congrArg lV hr) aa) hr) trivial
   (head_all (p:=fun b=>bIs b [44]=false) ab ab hb) (by
    have:=join_len (tk:=rowTk) w.rows fun l _=>rowTk_pos l;simp at hs;omega) hr1'.tail
  rw[hl];simp only[cB];have hr2:Rest ts (k+(listedTk w.cols).length+1+(lJ (w.rows.map rowTk)).length) (conflTk w++R):=(by rw[eb];exact hr1'.tail.app);have hk2:k+(listedTk w.cols).length+1+(lJ (w.rows.map rowTk)).length<=ts.length:=(by rw[eb] at hr2;have:=hr2.lt;omega);rw[confl_reads hT hc hd hk2 hR hr2];simp only
  congr 1
  simp only[aX];omega
 ·rw[hh] at hq hr hr1;simp only[if_true,aQ,iZ] at hq hr hr1⊢;obtain⟨sq,hsq⟩:∃t,tkQ w.query=wd d3h::t:=⟨_,rfl⟩
  have hr':=hr;rw[hsq] at hr';rw[names_reads hcols false aa hk hr' ab];simp only[d2u.bind];have hr1':=hr1;rw[hsq] at hr1';have hk1:k+(listedTk w.cols).length<ts.length:=(by have:=hr1'.lt;omega);rw[gZ hr1' ab];simp only;rw[q_reads hT hq.1 hd.query aE hH hr1];simp only;have hr2:=hr1.app;have hk2:k+(listedTk w.cols).length+(tkQ w.query).length<=ts.length:=by
   obtain⟨b,m,eb,_⟩:=hH;rw[eb] at hr2;have:=hr2.lt;omega
  rw[confl_reads hT hc hd hk2 hR hr2];simp only;rw[hq.2]
theorem merge_reads{ts:List Tok}(hT:lC ts){w:Wr}(hu:d4c w.using'=true)(ho:eH w.on=true)(h0:w.whens≠[])(hw:∀x∈w.whens,rightWnL x=true)(hd:DeepW w){k:Nat}{R:List kG}(hk:k<=ts.length)(hR:HeadIn [wReturning] R)
  (hr:Rest ts k (wd wUsing::(tkSo w.using'++wd wOn::(tkE w.on++(w.whens.flatMap whenTk++R))))):
  mergeR ts w.into k= .good (k+1+(tkSo w.using').length+1+(tkE w.on).length+(w.whens.flatMap whenTk).length) ⟨4,w.into,[],[],false,d3z,[],0,[],zeroE,w.using',w.on,w.whens,[]⟩:=by
 have e2:w.whens.flatMap whenTk=wd wWhen::(w.whens.flatMap whenTk).drop 1:=by
  cases hl:w.whens with
  |nil=>exact absurd hl h0
  |cons x l=>simp[whenTk]
 have hRne:(w.whens.flatMap whenTk).drop 1++R≠[]:=(by obtain⟨b,m,rfl,_⟩:=hR;simp);have hs:=Rest.short (l:=[]) hr hk;unfold mergeR;rw[need_reads ab hr aa];simp only[d2u.bind];have hr1:=hr.tail;rw[so_reads hu hr1 ab];simp only;have hr2:=hr1.app;have hr3:=hr2.tail;rw[need_reads ab hr2 (by rw[e2];simp)];simp only;have hr3':=hr3;rw[e2,bE] at hr3';rw[expr_reads hT ho hd.on hr3' (endsE_of ab)];simp only;have hr4:=hr3'.app;rw[need_reads ab hr4 hRne];simp only;have hk4:=hr4.lt;rw[whens_reads hT w.whens ts.length _ [] R h0 (fun x hx=>⟨hw x hx,hd.whens x hx⟩) hR (by
  have:=when_count w.whens;simp only[aX,bD,bL] at hs;omega) aE hr4.tail]
 simp only[cB]
 congr 1
 have:1<=(w.whens.flatMap whenTk).length:=(by rw[e2];simp);omega
theorem ret_reads{ts:List Tok}(hT:lC ts){l:List It}(h:(l.isEmpty||d4l l)=true)(hd:∀i∈l,rY i.x<=60){k:Nat}(hk:k<=ts.length)(hr:Rest ts k (retTk l++[endB])):returningR ts k= .good (k+(retTk l).length) l:=by
 unfold retTk at hr⊢;unfold returningR;by_cases h0:l=[]
 ·rw[if_pos h0] at hr⊢;have hr1:Rest ts k (endB::[]):=hr;rw[gZ hr1 ab,h0];rfl
 ·rw[if_neg h0] at hr⊢;simp only[jO,iZ] at h;have h:=h.resolve_left h0;unfold d4l at h;simp only[aQ,jA] at h;have hr1:Rest ts k (wd wReturning::(lJ (l.map tkIt)++[endB])):=hr;have hs:=Rest.short (l:=[]) hr1 hk;rw[take_one hr1 aa ab];simp only;unfold d7m;rw[list_reads (ts:=ts) (one:=d3x ts) (tk:=tkIt) EndsI ⟨endsE_of ab,by decide⟩ l ts.length (k+1) [] endB [] h0 (fun i hm k b m hr he=>it_reads hT (h.2 i hm) (fun _=>hd i hm) hr he) ⟨endsE_of ab,by decide⟩ ab (by
   have:=join_len (tk:=tkIt) l fun i hm=>tkIt_pos (h.2 i hm);simp at hs;omega) hr1.tail]
  simp only[cB,aX]
  congr 1
  omega
theorem write_reads{ts:List Tok}(hT:lC ts){w:Wr}(h:looseW w=true)(hd:DeepW w)(hr:Rest ts 0 (tkW w++[endB])):writeR ts 0= .good (tkW w).length w:=by
 have h':=h;unfold looseW at h';simp only[aQ,decide_eq_true_eq] at h';obtain⟨⟨⟨⟨⟨⟨hk,hs⟩,hret⟩,hone⟩,hq0⟩,hfour⟩,hb⟩:=h';have hR:HeadIn [wReturning] (retTk w.ret++[endB]):=(show HeadIn [] [endB] from⟨endB,[],rfl,.inl rfl⟩).seg (by unfold retTk;exact if_head);have hrr:∀k,k<=ts.length->Rest ts k (retTk w.ret++[endB])->returningR ts k= .good (k+(retTk w.ret).length) w.ret:=fun k hk hr=>ret_reads hT hret hd.ret hk hr;have hle:∀{k:Nat},Rest ts k (retTk w.ret++[endB])->k<=ts.length:=by
  intro k hr;obtain⟨b,m,e,_⟩:=hR;rw[e] at hr;have:=hr.lt;omega
 unfold tkW bodyTk at hr⊢;unfold writeR;by_cases h1:w.kind=1
 ·rw[if_pos h1] at hb hr⊢;have hfour:w.whens=[]/\w.on=zeroE/\w.using'=⟨[],[]⟩:=by
   rw[h1] at hfour;simp only[jO,aQ,iZ,beq_iff_eq] at hfour;have:=hfour.resolve_left ab;refine⟨this.1.1.1,none_eq this.1.1.2,?_⟩;have e1:=this.1.2;have e2:=this.2;cases hu:w.using' with
   |mk a b=>rw[hu] at e1 e2;simp only at e1 e2;rw[e1,e2]
  have hqq:w.hasQ=false->w.query=d3z:=by
   intro e;rw[e] at hq0;exact sameQ_eq (by simpa using hq0)
  have hr1:Rest ts 0 (wd wInsert::wd wInto::(tkSo w.into++(listedTk w.cols++((if w.hasQ then tkQ w.query else wd wValues::lJ (w.rows.map rowTk))++(conflTk w++(retTk w.ret++[endB])))))):=dv;obtain⟨b,m,eb,hbas⟩:∃b m,(listedTk w.cols++((if w.hasQ then tkQ w.query else wd wValues::lJ (w.rows.map rowTk))++(conflTk w++(retTk w.ret++[endB]))))=b::m/\bIs b wAs=false:=by
   unfold listedTk;split
   ·split
    ·exact⟨_,_,rfl,by decide⟩
    ·exact⟨_,_,rfl,by decide⟩
   ·exact⟨_,_,rfl,by decide⟩
  have hr2:Rest ts 2 (tkSo w.into++(listedTk w.cols++((if w.hasQ then tkQ w.query else wd wValues::lJ (w.rows.map rowTk))++(conflTk w++(retTk w.ret++[endB]))))):=hr1.tail.tail;have hr2':=hr2;rw[eb] at hr2';have hr3:=hr2.app;have hk3:2+(tkSo w.into).length<=ts.length:=(by rw[eb] at hr3;have:=hr3.lt;omega);have hr4:=hr3.app.app.app;have hlen:=hle hr4;have hbeg:begunR ts 0=some (2,1):=by
   unfold begunR;rw[need_two ab ab hr1 aa]
  rw[hbeg];simp only;rw[so_reads hs hr2' hbas];simp only[d2u.bind];rw[if_pos trivial,insert_reads hT hb hqq hd hk3 hR hr3];simp only;rw[hrr _ hlen hr4];simp only;obtain⟨e1,e2,e3⟩:=hfour
  congr 1
  ·simp only[aX,bD];omega
  ·cases w;simp only at h1 e1 e2 e3⊢;rw[h1,e1,e2,e3]
 rw[if_neg h1] at hb hr⊢;have hone:w.cols=[]/\w.rows=[]/\w.conf=[]/\w.act=0/\w.hasQ=false/\w.query=d3z:=by
  simp only[jO,aQ,iZ,beq_iff_eq,nT] at hone;obtain⟨⟨⟨⟨e1,e2⟩,e3⟩,e4⟩,e5⟩:=hone.resolve_left h1;rw[e5] at hq0;exact⟨e1,e2,e3,e4,e5,sameQ_eq (by simpa using hq0)⟩
 obtain⟨c1,c2,c3,c4,c5,c6⟩:=hone;by_cases h2:w.kind=2
 ·rw[if_pos h2] at hb hr⊢;have hfour:w.whens=[]/\w.on=zeroE/\w.using'=⟨[],[]⟩:=by
   rw[h2] at hfour;simp only[jO,aQ,iZ,beq_iff_eq] at hfour;have:=hfour.resolve_left ab;refine⟨this.1.1.1,none_eq this.1.1.2,?_⟩;have e1:=this.1.2;have e2:=this.2;cases hu:w.using' with
   |mk a b=>rw[hu] at e1 e2;simp only at e1 e2;rw[e1,e2]
  obtain⟨e1,e2,e3⟩:=hfour;simp only[aQ] at hb;have hr1:Rest ts 0 (wd wUpdate::(tkSo w.into++wd wSet::(setsTk w.sets++(optTk d6o w.wher++(retTk w.ret++[endB]))))):=dv;have hr2:Rest ts 1 (tkSo w.into++wd wSet::(setsTk w.sets++(optTk d6o w.wher++(retTk w.ret++[endB])))):=hr1.tail;have hr3:=hr2.app;obtain⟨s,sm,es,hsx⟩:HeadIn [d6o,wReturning] (optTk d6o w.wher++(retTk w.ret++[endB])):=hR.seg (by unfold optTk;exact if_head);obtain⟨hse,_,hsc⟩:=end_ok2 (S:=[d6o,wReturning]) ab hsx;have hr3':=hr3;rw[es] at hr3';have hr4:=hr3.tail.app;have hr5:=hr4.app;have hlen:=hle hr5;obtain⟨b,m,eb,hbx⟩:=hR;obtain⟨he,_,_⟩:=end_ok2 (S:=[wReturning]) aa hbx;have hr4':=hr4;rw[eb] at hr4';have hmr:d3s ts d6o _= .good (_+(optTk d6o w.wher).length) w.wher:=maybe_reads hT (w:=d6o) ab (may_of hb.2) hd.wher hr4' he (head_all (p:=fun b=>bIs b d6o=false) ab ab hbx);have hbeg:begunR ts 0=some (1,2):=by
   unfold begunR;rw[gZ hr1 ab,take_one hr1 aa ab]
  rw[hbeg];simp only;rw[so_reads hs hr2 ab];simp only[d2u.bind];rw[if_neg ab,if_pos trivial,sets_reads hT hb.1 hd.sets (by have:=hr3'.lt;omega) hr3' hse hsc];simp only;rw[hmr];simp only;rw[hrr _ hlen hr5];simp only
  congr 1
  ·simp only[aX,bD,optTk];omega
  ·cases w;simp only at h2 e1 e2 e3 c1 c2 c3 c4 c5 c6⊢;rw[h2,e1,e2,e3,c1,c2,c3,c4,c5,c6]
 rw[if_neg h2] at hb hr⊢;by_cases h3:w.kind=3
 ·rw[if_pos h3] at hb hr⊢;have hfour:w.whens=[]/\w.on=zeroE/\w.using'=⟨[],[]⟩:=by
   rw[h3] at hfour;simp only[jO,aQ,iZ,beq_iff_eq] at hfour;have:=hfour.resolve_left ab;refine⟨this.1.1.1,none_eq this.1.1.2,?_⟩;have e1:=this.1.2;have e2:=this.2;cases hu:w.using' with
   |mk a b=>rw[hu] at e1 e2;simp only at e1 e2;rw[e1,e2]
  obtain⟨e1,e2,e3⟩:=hfour;simp only[aQ,iZ] at hb;have hr1:Rest ts 0 (wd wDelete::wd d5p::(tkSo w.into++(optTk d6o w.wher++(retTk w.ret++[endB])))):=dv;have hr2:Rest ts 2 (tkSo w.into++(optTk d6o w.wher++(retTk w.ret++[endB]))):=hr1.tail.tail;have hr4:=hr2.app;obtain⟨s,sm,es,hsx⟩:HeadIn [d6o,wReturning] (optTk d6o w.wher++(retTk w.ret++[endB])):=hR.seg (by unfold optTk;exact if_head);obtain⟨_,hsa,_⟩:=end_ok2 (S:=[d6o,wReturning]) ab hsx;have hr2':=hr2;rw[es] at hr2';have hr5:=hr4.app;have hlen:=hle hr5;obtain⟨b,m,eb,hbx⟩:=hR;obtain⟨he,_,_⟩:=end_ok2 (S:=[wReturning]) aa hbx;have hr4':=hr4;rw[eb] at hr4';have hmr:d3s ts d6o _= .good (_+(optTk d6o w.wher).length) w.wher:=maybe_reads hT (w:=d6o) ab (may_of hb.2) hd.wher hr4' he (head_all (p:=fun b=>bIs b d6o=false) ab ab hbx);have hbeg:begunR ts 0=some (2,3):=by
   unfold begunR;rw[gZ hr1 ab,gZ hr1 ab,need_two ab ab hr1 aa]
  rw[hbeg];simp only;rw[so_reads hs hr2' hsa];simp only[d2u.bind];rw[if_neg ab,if_neg ab,if_pos trivial,hmr];simp only;rw[hrr _ hlen hr5];simp only
  congr 1
  ·simp only[aX,bD,optTk];omega
  ·have hb1:=hb.1;cases w;simp only at h3 e1 e2 e3 c1 c2 c3 c4 c5 c6 hb1⊢;rw[h3,e1,e2,e3,c1,c2,c3,c4,c5,c6,hb1]
 rw[if_neg h3] at hb hr⊢;have h4:w.kind=4:=aE;simp only[aQ,jA,iZ,decide_eq_true_eq] at hb;obtain⟨⟨⟨⟨⟨hw,hsets⟩,hwher⟩,hu⟩,ho⟩,hw1⟩:=hb;have hw0:w.whens≠[]:=(by intro e;rw[e] at hw1;simp at hw1);have hr1:Rest ts 0 (wd wMerge::wd wInto::(tkSo w.into++wd wUsing::(tkSo w.using'++wd wOn::(tkE w.on++(w.whens.flatMap whenTk++(retTk w.ret++[endB])))))):=dv;have hr2:Rest ts 2 (tkSo w.into++wd wUsing::(tkSo w.using'++wd wOn::(tkE w.on++(w.whens.flatMap whenTk++(retTk w.ret++[endB]))))):=hr1.tail.tail;have hr3:=hr2.app;have hr5:=hr3.tail.app.tail.app.app;have hlen:=hle hr5;have hbeg:begunR ts 0=some (2,4):=by
  unfold begunR;rw[gZ hr1 ab,gZ hr1 ab,gZ hr1 ab,need_two ab ab hr1 aa]
 rw[hbeg];simp only;rw[so_reads hs hr2 ab];simp only[d2u.bind];rw[if_neg ab,if_neg ab,if_neg ab,merge_reads hT hu ho hw0 hw hd (by have:=hr3.lt;omega) hR hr3];simp only;rw[hrr _ hlen hr5];simp only
 congr 1
 ·simp only[aX,bD];omega
 ·have hw':=none_eq hwher;cases w;simp only at h4 c1 c2 c3 c4 c5 c6 hsets hw'⊢;rw[h4,c1,c2,c3,c4,c5,c6,hsets,hw']
theorem parseW_loose{w:Wr}(h:looseW w=true)(hf:FitsW w)(hd:DeepW w)(hl:(textW w).length<=4000):parseW (textW w)=if manyW w then(270,zeroW) else(0,w):=by
 have h1:=w_lx h hf [] yL.nil;rw[List.append_nil,c6x] at h1;simp only[lX,List.append_nil] at h1;obtain⟨ts,h2,h3⟩:=c3z h1 (textW w).length;have hr:Rest (ts++[eT (textW w).length]) 0 (tkW w++[endB]):=by
  unfold Rest;rw[kW,h3];rfl
 have hR:=write_reads (a4t h2) h hd hr;have hlen:(tkW w).length=ts.length:=(by rw[<-h3];simp);unfold parseW readW;rw[if_neg aE,show jQ (textW w)=some ts from h2];simp only;rw[hR,hlen];simp only[d2u.bind];cases manyW w
 ·simp[eT]
 ·simp
end
section
theorem whenInfo:(prog.info? 87).map (·.size)=some 13:=by kernel_rfl
theorem akInfo:(prog.info? 42).map (·.size)=some 1:=by kernel_rfl
theorem slSetInfo:(prog.info? 43).map (·.size)=some 1:=by kernel_rfl
theorem slStrInfo:(prog.info? 27).map (·.size)=some 1:=by kernel_rfl
abbrev whC(m:Bool)(k v1 v2:Int)(v3 t n:List UInt8)(o:Int)(s:Value)(act:Int)(ss sc sv:Value):List Value:=[.bool m,.int .i64 k,.int .i64 v1,.int .i64 v2,S v3,S t,S n,.int .i64 o,s,.int .i64 act,ss,sc,sv]
def actR(ts:List Tok)(m:Bool)(c:Ex)(k:Nat):d2u Wn:=match bH ts k [wDo,wNothing] with
  |some k4=> .good k4 ⟨m,c,1,[],[],[]⟩
  |none=>match(if m then bH ts k [wUpdate] else none) with
   |some k4=>(setsR ts k4).bind fun k5 l=> .good k5 ⟨m,c,2,l,[],[]⟩
   |none=>match(if m then bH ts k [wDelete] else none) with
    |some k4=> .good k4 ⟨m,c,3,[],[],[]⟩
    |none=>if m then .bad 261 else(needR ts k [wInsert]).bind fun k4 _=>(namesR ts false k4).bind fun k5 cols=>(needR ts k5 [wValues]).bind fun k6 _=>(rowR ts k6).bind fun k7 l=> .good k7 ⟨m,c,4,[],cols,l⟩
def condR(ts:List Tok)(m:Bool)(j:Nat):d2u Wn:=(needR ts j [wMatched]).bind fun k1 _=>(d3s ts wAnd k1).bind fun k2 c=>(needR ts k2 [wThen]).bind fun k3 _=>actR ts m c k3
theorem whenR_eq(ts:List Tok)(k:Nat):whenR ts k=condR ts (bH ts k [rW]).isNone ((bH ts k [rW]).getD k):=rfl
theorem zwhen_any{W:World}{bs g cap k:Nat}{ts:List Tok}(h:iV W bs g cap ts k)(hT:lC ts):fW 197 #[RV bs] W (d2o (ReadsG gWn W.heap.size) bs g cap ts W (whenR ts k)):=by
 have HB0:=aB (((Bl.refl W).alloc (.cells #[.pointer (some ⟨bs,0,none⟩)] 122)).alloc (.cells (whC false 0 0 0 [] [] [] 0 (.slice none 0 0) 0 (.slice none 0 0) (.slice none 0 0) (.slice none 0 0)).toArray 87));have HF0:=aB (FrZ.start W bs 87 (whC false 0 0 0 [] [] [] 0 (.slice none 0 0) 0 (.slice none 0 0) (.slice none 0 0) (.slice none 0 0)).toArray);have HTK:=aB hT;obtain⟨R,HR⟩:∃R,Hid (R=whenR ts k):=⟨_,rfl⟩
 rw[<-HR.o];clear hT;have H:=aB h;have hbl:=h.lt';have hgl:=h.gl;clear h;cases hn:bH ts k [rW] with
 |some j=>
  have HN:=aB hn;have HE1:=aB (show R=condR ts false j from by rw[HR.o,whenR_eq,hn];rfl);clear hn;go_enter func197,ntmps197;go_wp2_with fail;refine(jD (H.o.bl HB0.o) [rW] HN.o _ 1 _ _ rfl rfl aa aa).mono ?_;rintro e w1 ⟨rfl,hg,hs⟩;have HF1:=aB (HF0.o.next hbl hg);have HS1:=aB hs;clear hg hs;have a0:=cK (HF1).o.r;go_wp2_with (refine bA (g:=W.heap.size+1) (i:=0) rfl rfl rfl rfl (whC false 0 0 0 [] [] [] 0 (.slice none 0 0) 0 (.slice none 0 0) (.slice none 0 0) (.slice none 0 0)) (HF1).o.x rfl rfl e3y rfl ?_)
  intro w2 hB2 hX2;have HF2:=aB ((HF1).o.but hB2 hX2);have HS2:=aB ((HS1).o.but hB2 aE aE);clear hB2 hX2 a0;have a0:=cK HF2.o.r;go_wp2_with fail;refine(zneed_any HS2.o [wMatched] _ 1 _ _ rfl rfl aa aa).mono ?_;intro e w3 hp;obtain⟨hg3,k3,hs3,hcase⟩:=hp;have HF3:=aB (HF2.o.next hbl hg3);have HS3:=aB hs3;clear hg3 hs3 a0;rcases hcase with⟨_,v,hr3,rfl,rfl⟩|⟨c,hc,hr3,rfl⟩
  rotate_left
  ·have HB:=aB ((HE1).o.trans (d2u.bind_bad hr3));clear hr3;go_wp2;exact⟨rfl,d2o.no (HF3).o.grown (HS3).o hc HB.o⟩
  have HE3:=aB ((HE1).o.trans (d2u.bind_yes hr3));have a0:=cK HF3.o.r;have hz3:=HF3.o.size;clear hr3;go_wp2_with fail;refine(zmaybe_any HS3.o HTK.o wAnd).mono ?_;intro e w4 hp;obtain⟨hg4,k4,hs4,hcase⟩:=hp.openE;have HF4:=aB (HF3.o.next hbl hg4);have HS4:=aB hs4;clear hp hg4 hs4 a0;rcases hcase with⟨xk,x1,x2,x3,xt,xn,xo,xa,asv,csv,hr4,hA,rfl⟩|⟨c,hc,hr4,rfl⟩
  rotate_left
  ·have HB:=aB ((HE3).o.trans (d2u.bind_bad hr4));clear hr4;go_wp2;exact⟨rfl,d2o.no (HF4).o.grown (HS4).o hc HB.o⟩
  have HA4:=aB (hA.of (q:=fun b=>W.heap.size+2<=b) fun b _ (hb:_<=b)=>by omega);have HE4:=aB (HE3.o.trans (d2u.bind_yes hr4));clear hr4 hA;go_wp2_with (refine bA (g:=W.heap.size+1) (i:=1) rfl rfl rfl rfl (whC false xk x1 x2 x3 xt xn xo (.slice asv xa.length csv) 0 (.slice none 0 0) (.slice none 0 0) (.slice none 0 0)) HF4.o.x rfl rfl d4b rfl ?_)
  intro w5 hB5 hX5;have HF5:=aB (HF4.o.but hB5 hX5);have HS5:=aB (HS4.o.but hB5 aE aE);have HA5:=aB (HA4.o.but hB5 (fun i (hi:_<=i)=>by omega));clear hB5 hX5;have a0:=cK HF5.o.r;go_wp2_with fail;refine(zneed_any HS5.o [wThen] _ 1 _ _ rfl rfl aa aa).mono ?_;intro e w6 hp;obtain⟨hg6,k6,hs6,hcase⟩:=hp;have HF6:=aB (HF5.o.next hbl hg6);have HS6:=aB hs6;have HA6:=aB (HA5.o.keep (fun _ h=>h) fun b (hb:_<=b) hl=>hg6.block b hl (fun e=>by injection e with e;omega));clear hg6 hs6 a0;rcases hcase with⟨_,v,hr6,rfl,rfl⟩|⟨c,hc,hr6,rfl⟩
  rotate_left
  ·have HB:=aB ((HE4).o.trans (d2u.bind_bad hr6));clear hr6;go_wp2;exact⟨rfl,d2o.no (HF6).o.grown (HS6).o hc HB.o⟩
  have HE6:=aB (HE4.o.trans (d2u.bind_yes hr6));have a0:=cK HF6.o.r;clear hr6;cases ht:bH ts k6 [wDo,wNothing] with
  |some k7=>
   have HT:=aB ht;have HE7:=aB (show R= .good k7 ⟨false,.mk xk (x1,x2,x3) xt xn xo xa,1,[],[],[]⟩ from by rw[HE6.o];unfold actR;rw[ht]);clear ht;go_wp2_with fail;refine(jD HS6.o [wDo,wNothing] HT.o _ 2 _ _ rfl rfl aa aa).mono ?_;rintro e w7 ⟨rfl,hg7,hs7⟩;have HF7:=aB (HF6.o.next hbl hg7);have HS7:=aB hs7;have HA7:=aB (HA6.o.keep (fun _ h=>h) fun b (hb:_<=b) hl=>hg7.block b hl (fun e=>by injection e with e;omega));clear hg7 hs7 a0;go_wp2_with (refine bA (g:=W.heap.size+1) (i:=9) rfl rfl rfl rfl (whC false xk x1 x2 x3 xt xn xo (.slice asv xa.length csv) 1 (.slice none 0 0) (.slice none 0 0) (.slice none 0 0)) HF7.o.x rfl rfl akInfo rfl ?_)
   intro w8 hB8 hX8;have HF8:=aB (HF7.o.but hB8 hX8);have HS8:=aB (HS7.o.but hB8 aE aE);have HA8:=aB (HA7.o.but hB8 (fun i (hi:_<=i)=>by omega));clear hB8 hX8;have a9:=cK (HF8).o.r;go_wp2_with (first |(refine wpList_load_row rfl 87 (.tmp 2) rfl (W.heap.size+1) rfl 87 _ (0,0) _ (HF8).o.x underlying87 rfl whenInfo ?_)|(refine bA (g:=W.heap.size+1) (i:=0) rfl rfl rfl rfl (whC false xk x1 x2 x3 xt xn xo (.slice asv xa.length csv) 1 (.slice none 0 0) (.slice none 0 0) (.slice none 0 0)) (HF8).o.x rfl rfl whenInfo rfl ?_))
   intro w9 hB9 hX9;go_wp2;refine bodyPost_ret (v:= .agg (whC false xk x1 x2 x3 xt xn xo (.slice asv xa.length csv) 1 (.slice none 0 0) (.slice none 0 0) (.slice none 0 0)).toArray) (results_cell_row (p:=2) (ty:=87) rfl _ _ (W.heap.size+1) 87 _ (0,0) _ rfl hX9 underlying87 rfl whenInfo) rfl ?_;refine d2o.yes ((HF8).o.but hB9 hX9).grown ((HS8).o.but hB9 aE aE) (HE7).o ⟨_,rfl,_,_,_,_,rfl,?_,⟨RowsG.nil _ _ _ _,RowsG.nil _ _ _ _,bG.nil _ _ _ _⟩⟩;exact(HA8.o.but hB9 (fun i (hi:_<=i)=>by omega)).of fun b _ (hb:_<=b)=>by omega
  |none=>
   have HT:=aB ht;clear ht;go_wp2_with fail;refine(kM HS6.o [wDo,wNothing] HT.o _ 2 _ _ rfl rfl aa aa).mono ?_;rintro e w7 ⟨rfl,hg7,hs7⟩;have HF7:=aB (HF6.o.next hbl hg7);have HS7:=aB hs7;have HA7:=aB (HA6.o.keep (fun _ h=>h) fun b (hb:_<=b) hl=>hg7.block b hl (fun e=>by injection e with e;omega));clear hg7 hs7 a0;have a0:=cK HF7.o.r;have HE7:=aB (show R=(needR ts k6 [wInsert]).bind fun k4 _=>(namesR ts false k4).bind fun k5 cols=>(needR ts k5 [wValues]).bind fun k6 _=>(rowR ts k6).bind fun k7 l=> .good k7 ⟨false,.mk xk (x1,x2,x3) xt xn xo xa,4,[],cols,l⟩ from by rw[HE6.o];unfold actR;rw[HT.o];rfl);have f0:w7.cell? ⟨W.heap.size+1,0,none⟩=some (.bool false):=(by rw[aG HF7.o.x];rfl);cases hi:bH ts k6 [wInsert] with
   |none=>
    have HI:=aB hi;have HE8:=aB (HE7.o.trans (d2u.bind_bad (c:=261) (by unfold needR;rw[hi])));clear hi;go_wp2_with fail;refine(kM HS7.o [wInsert] HI.o _ 1 _ _ rfl rfl aa aa).mono ?_;rintro e w8 ⟨rfl,hg8,hs8⟩;have HF8:=aB (HF7.o.next hbl hg8);have HS8:=aB hs8;clear hg8 hs8 a0;go_wp2_with fail
    (with_reducible refine(zmust_no _ _).mono ?_)
    rintro e w' ⟨rfl,rfl⟩;go_wp2;exact⟨rfl,d2o.no HF8.o.grown HS8.o (.inr (.inl rfl)) HE8.o⟩
   |some k8=>
    have HI:=aB hi;have HE8:=aB (HE7.o.trans (d2u.bind_yes (k:=k8) (x:=()) (by unfold needR;rw[hi])));clear hi;go_wp2_with fail;refine(jD HS7.o [wInsert] HI.o _ 1 _ _ rfl rfl aa aa).mono ?_;rintro e w8 ⟨rfl,hg8,hs8⟩;have HF8:=aB (HF7.o.next hbl hg8);have HS8:=aB hs8;have HA8:=aB (HA7.o.keep (fun _ h=>h) fun b (hb:_<=b) hl=>hg8.block b hl (fun e=>by injection e with e;omega));have hz8:=HF8.o.size;clear hg8 hs8 a0 f0;have a0:=cK HF8.o.r;go_wp2_with fail;refine(znames_any HS8.o HTK.o).mono ?_;intro e w9 hp;obtain⟨hg9,k9,hs9,hcase⟩:=hp;have HF9:=aB (HF8.o.next hbl hg9);have HS9:=aB hs9;have HA9:=aB (HA8.o.keep (fun _ h=>h) fun b (hb:_<=b) hl=>hg9.block b hl (fun e=>by injection e with e;omega));clear hg9 hs9 a0;rcases hcase with⟨cl,v,hr9,hl,rfl⟩|⟨c,hc,hr9,rfl⟩
    rotate_left
    ·have HB:=aB ((HE8).o.trans (d2u.bind_bad hr9));clear hr9;go_wp2;exact⟨rfl,d2o.no (HF9).o.grown (HS9).o hc HB.o⟩
    have HE9:=aB (HE8.o.trans (d2u.bind_yes hr9));obtain⟨ca,cc,rfl,-⟩:=id hl;have HC9:=aB (hl.low (q:=fun b=>W.heap.size+2<=b) fun b _ (hb:_<=b)=>by omega);clear hr9 hl;go_wp2_with (refine bA (g:=W.heap.size+1) (i:=9) rfl rfl rfl rfl (whC false xk x1 x2 x3 xt xn xo (.slice asv xa.length csv) 4 (.slice none 0 0) (.slice none 0 0) (.slice none 0 0)) HF9.o.x rfl rfl akInfo rfl ?_)
    intro w10 hB10 hX10;go_wp2_with (refine bA (g:=W.heap.size+1) (i:=11) rfl rfl rfl rfl (whC false xk x1 x2 x3 xt xn xo (.slice asv xa.length csv) 4 (.slice none 0 0) (.slice ca cl.length cc) (.slice none 0 0)) hX10 rfl rfl slStrInfo rfl ?_)
    intro w11 hB11 hX11;have HF11:=aB ((HF9.o.but hB10 hX10).but hB11 hX11);have HS11:=aB ((HS9.o.but hB10 aE aE).but hB11 aE aE);have HA11:=aB ((HA9.o.but hB10 (fun i (hi:_<=i)=>by omega)).but hB11 (fun i (hi:_<=i)=>by omega));have HC11:=aB ((HC9.o.butG hB10 (fun i (hi:_<=i)=>by omega)).butG hB11 (fun i (hi:_<=i)=>by omega));clear hB10 hX10 hB11 hX11;have a0:=cK HF11.o.r;go_wp2_with fail;refine(zneed_any HS11.o [wValues] _ 1 _ _ rfl rfl aa aa).mono ?_;intro e w12 hp;obtain⟨hg12,k12,hs12,hcase⟩:=hp;have HF12:=aB (HF11.o.next hbl hg12);have HS12:=aB hs12;have HA12:=aB (HA11.o.keep (fun _ h=>h) fun b (hb:_<=b) hl=>hg12.block b hl (fun e=>by injection e with e;omega));have HC12:=aB (HC11.o.keep hg12.4 (fun _ _ h=>h) fun b (hb:_<=b) hl=>hg12.block b hl (fun e=>by injection e with e;omega));clear hg12 hs12 a0;rcases hcase with⟨_,v,hr12,rfl,rfl⟩|⟨c,hc,hr12,rfl⟩
    rotate_left
    ·have HB:=aB ((HE9).o.trans (d2u.bind_bad hr12));clear hr12;go_wp2;exact⟨rfl,d2o.no (HF12).o.grown (HS12).o hc HB.o⟩
    have HE12:=aB (HE9.o.trans (d2u.bind_yes hr12));have a0:=cK HF12.o.r;have hz12:=HF12.o.size;clear hr12;go_wp2_with fail;refine(zrow_any HS12.o HTK.o).mono ?_;intro e w13 hp;obtain⟨hg13,k13,hs13,hcase⟩:=hp;have HF13:=aB (HF12.o.next hbl hg13);have HS13:=aB hs13;have HA13:=aB (HA12.o.keep (fun _ h=>h) fun b (hb:_<=b) hl=>hg13.block b hl (fun e=>by injection e with e;omega));have HC13:=aB (HC12.o.keep hg13.4 (fun _ _ h=>h) fun b (hb:_<=b) hl=>hg13.block b hl (fun e=>by injection e with e;omega));clear hg13 hs13 a0;rcases hcase with⟨vl,v,hr13,hl,rfl⟩|⟨c,hc,hr13,rfl⟩
    rotate_left
    ·have HB:=aB ((HE12).o.trans (d2u.bind_bad hr13));clear hr13;go_wp2;exact⟨rfl,d2o.no (HF13).o.grown (HS13).o hc HB.o⟩
    have HE13:=aB (HE12.o.trans (d2u.bind_yes hr13));obtain⟨va,vc,rfl,-⟩:=id hl;have HV13:=aB ((readsE_row hl).of (q:=fun b=>W.heap.size+2<=b) fun b _ (hb:_<=b)=>by omega);clear hr13 hl;go_wp2_with (refine bA (g:=W.heap.size+1) (i:=12) rfl rfl rfl rfl (whC false xk x1 x2 x3 xt xn xo (.slice asv xa.length csv) 4 (.slice none 0 0) (.slice ca cl.length cc) (.slice va vl.length vc)) HF13.o.x rfl rfl d8o rfl ?_)
    intro w14 hB14 hX14;have HF14:=aB (HF13.o.but hB14 hX14);have HS14:=aB (HS13.o.but hB14 aE aE);have HA14:=aB (HA13.o.but hB14 (fun i (hi:_<=i)=>by omega));have HC14:=aB (HC13.o.butG hB14 (fun i (hi:_<=i)=>by omega));have HV14:=aB (HV13.o.but hB14 (fun i (hi:_<=i)=>by omega));clear hB14 hX14;have a9:=cK (HF14).o.r;go_wp2_with (first |(refine wpList_load_row rfl 87 (.tmp 2) rfl (W.heap.size+1) rfl 87 _ (0,0) _ (HF14).o.x underlying87 rfl whenInfo ?_)|(refine bA (g:=W.heap.size+1) (i:=0) rfl rfl rfl rfl (whC false xk x1 x2 x3 xt xn xo (.slice asv xa.length csv) 4 (.slice none 0 0) (.slice ca cl.length cc) (.slice va vl.length vc)) (HF14).o.x rfl rfl whenInfo rfl ?_))
    intro w9 hB9 hX9;go_wp2;refine bodyPost_ret (v:= .agg (whC false xk x1 x2 x3 xt xn xo (.slice asv xa.length csv) 4 (.slice none 0 0) (.slice ca cl.length cc) (.slice va vl.length vc)).toArray) (results_cell_row (p:=2) (ty:=87) rfl _ _ (W.heap.size+1) 87 _ (0,0) _ rfl hX9 underlying87 rfl whenInfo) rfl ?_;refine d2o.yes ((HF14).o.but hB9 hX9).grown ((HS14).o.but hB9 aE aE) (HE13).o ⟨_,rfl,_,_,_,_,rfl,?_,⟨RowsG.nil _ _ _ _,(HC14.o.butG hB9 (fun i (hi:_<=i)=>by omega)).low fun b _ (hb:_<=b)=>by omega,(HV14.o.but hB9 (fun i (hi:_<=i)=>by omega)).of fun b _ (hb:_<=b)=>by omega⟩⟩;exact(HA14.o.but hB9 (fun i (hi:_<=i)=>by omega)).of fun b _ (hb:_<=b)=>by omega
 |none=>
  have HN:=aB hn;have HE1:=aB (show R=condR ts true k from by rw[HR.o,whenR_eq,hn];rfl);clear hn;go_enter func197,ntmps197;go_wp2_with fail;refine(kM (H.o.bl HB0.o) [rW] HN.o _ 1 _ _ rfl rfl aa aa).mono ?_;rintro e w1 ⟨rfl,hg,hs⟩;have HF1:=aB (HF0.o.next hbl hg);have HS1:=aB hs;clear hg hs;have a0:=cK (HF1).o.r;go_wp2_with (refine bA (g:=W.heap.size+1) (i:=0) rfl rfl rfl rfl (whC true 0 0 0 [] [] [] 0 (.slice none 0 0) 0 (.slice none 0 0) (.slice none 0 0) (.slice none 0 0)) (HF1).o.x rfl rfl e3y rfl ?_)
  intro w2 hB2 hX2;have HF2:=aB ((HF1).o.but hB2 hX2);have HS2:=aB ((HS1).o.but hB2 aE aE);clear hB2 hX2 a0;have a0:=cK HF2.o.r;go_wp2_with fail;refine(zneed_any HS2.o [wMatched] _ 1 _ _ rfl rfl aa aa).mono ?_;intro e w3 hp;obtain⟨hg3,k3,hs3,hcase⟩:=hp;have HF3:=aB (HF2.o.next hbl hg3);have HS3:=aB hs3;clear hg3 hs3 a0;rcases hcase with⟨_,v,hr3,rfl,rfl⟩|⟨c,hc,hr3,rfl⟩
  rotate_left
  ·have HB:=aB ((HE1).o.trans (d2u.bind_bad hr3));clear hr3;go_wp2;exact⟨rfl,d2o.no (HF3).o.grown (HS3).o hc HB.o⟩
  have HE3:=aB ((HE1).o.trans (d2u.bind_yes hr3));have a0:=cK HF3.o.r;have hz3:=HF3.o.size;clear hr3;go_wp2_with fail;refine(zmaybe_any HS3.o HTK.o wAnd).mono ?_;intro e w4 hp;obtain⟨hg4,k4,hs4,hcase⟩:=hp.openE;have HF4:=aB (HF3.o.next hbl hg4);have HS4:=aB hs4;clear hp hg4 hs4 a0;rcases hcase with⟨xk,x1,x2,x3,xt,xn,xo,xa,asv,csv,hr4,hA,rfl⟩|⟨c,hc,hr4,rfl⟩
  rotate_left
  ·have HB:=aB ((HE3).o.trans (d2u.bind_bad hr4));clear hr4;go_wp2;exact⟨rfl,d2o.no (HF4).o.grown (HS4).o hc HB.o⟩
  have HA4:=aB (hA.of (q:=fun b=>W.heap.size+2<=b) fun b _ (hb:_<=b)=>by omega);have HE4:=aB (HE3.o.trans (d2u.bind_yes hr4));clear hr4 hA;go_wp2_with (refine bA (g:=W.heap.size+1) (i:=1) rfl rfl rfl rfl (whC true xk x1 x2 x3 xt xn xo (.slice asv xa.length csv) 0 (.slice none 0 0) (.slice none 0 0) (.slice none 0 0)) HF4.o.x rfl rfl d4b rfl ?_)
  intro w5 hB5 hX5;have HF5:=aB (HF4.o.but hB5 hX5);have HS5:=aB (HS4.o.but hB5 aE aE);have HA5:=aB (HA4.o.but hB5 (fun i (hi:_<=i)=>by omega));clear hB5 hX5;have a0:=cK HF5.o.r;go_wp2_with fail;refine(zneed_any HS5.o [wThen] _ 1 _ _ rfl rfl aa aa).mono ?_;intro e w6 hp;obtain⟨hg6,k6,hs6,hcase⟩:=hp;have HF6:=aB (HF5.o.next hbl hg6);have HS6:=aB hs6;have HA6:=aB (HA5.o.keep (fun _ h=>h) fun b (hb:_<=b) hl=>hg6.block b hl (fun e=>by injection e with e;omega));clear hg6 hs6 a0;rcases hcase with⟨_,v,hr6,rfl,rfl⟩|⟨c,hc,hr6,rfl⟩
  rotate_left
  ·have HB:=aB ((HE4).o.trans (d2u.bind_bad hr6));clear hr6;go_wp2;exact⟨rfl,d2o.no (HF6).o.grown (HS6).o hc HB.o⟩
  have HE6:=aB (HE4.o.trans (d2u.bind_yes hr6));have a0:=cK HF6.o.r;clear hr6;cases ht:bH ts k6 [wDo,wNothing] with
  |some k7=>
   have HT:=aB ht;have HE7:=aB (show R= .good k7 ⟨true,.mk xk (x1,x2,x3) xt xn xo xa,1,[],[],[]⟩ from by rw[HE6.o];unfold actR;rw[ht]);clear ht;go_wp2_with fail;refine(jD HS6.o [wDo,wNothing] HT.o _ 2 _ _ rfl rfl aa aa).mono ?_;rintro e w7 ⟨rfl,hg7,hs7⟩;have HF7:=aB (HF6.o.next hbl hg7);have HS7:=aB hs7;have HA7:=aB (HA6.o.keep (fun _ h=>h) fun b (hb:_<=b) hl=>hg7.block b hl (fun e=>by injection e with e;omega));clear hg7 hs7 a0;go_wp2_with (refine bA (g:=W.heap.size+1) (i:=9) rfl rfl rfl rfl (whC true xk x1 x2 x3 xt xn xo (.slice asv xa.length csv) 1 (.slice none 0 0) (.slice none 0 0) (.slice none 0 0)) HF7.o.x rfl rfl akInfo rfl ?_)
   intro w8 hB8 hX8;have HF8:=aB (HF7.o.but hB8 hX8);have HS8:=aB (HS7.o.but hB8 aE aE);have HA8:=aB (HA7.o.but hB8 (fun i (hi:_<=i)=>by omega));clear hB8 hX8;have a9:=cK (HF8).o.r;go_wp2_with (first |(refine wpList_load_row rfl 87 (.tmp 2) rfl (W.heap.size+1) rfl 87 _ (0,0) _ (HF8).o.x underlying87 rfl whenInfo ?_)|(refine bA (g:=W.heap.size+1) (i:=0) rfl rfl rfl rfl (whC true xk x1 x2 x3 xt xn xo (.slice asv xa.length csv) 1 (.slice none 0 0) (.slice none 0 0) (.slice none 0 0)) (HF8).o.x rfl rfl whenInfo rfl ?_))
   intro w9 hB9 hX9;go_wp2;refine bodyPost_ret (v:= .agg (whC true xk x1 x2 x3 xt xn xo (.slice asv xa.length csv) 1 (.slice none 0 0) (.slice none 0 0) (.slice none 0 0)).toArray) (results_cell_row (p:=2) (ty:=87) rfl _ _ (W.heap.size+1) 87 _ (0,0) _ rfl hX9 underlying87 rfl whenInfo) rfl ?_;refine d2o.yes ((HF8).o.but hB9 hX9).grown ((HS8).o.but hB9 aE aE) (HE7).o ⟨_,rfl,_,_,_,_,rfl,?_,⟨RowsG.nil _ _ _ _,RowsG.nil _ _ _ _,bG.nil _ _ _ _⟩⟩;exact(HA8.o.but hB9 (fun i (hi:_<=i)=>by omega)).of fun b _ (hb:_<=b)=>by omega
  |none=>
   have HT:=aB ht;clear ht;go_wp2_with fail;refine(kM HS6.o [wDo,wNothing] HT.o _ 2 _ _ rfl rfl aa aa).mono ?_;rintro e w7 ⟨rfl,hg7,hs7⟩;have HF7:=aB (HF6.o.next hbl hg7);have HS7:=aB hs7;have HA7:=aB (HA6.o.keep (fun _ h=>h) fun b (hb:_<=b) hl=>hg7.block b hl (fun e=>by injection e with e;omega));clear hg7 hs7 a0;have a0:=cK HF7.o.r;have f0:w7.cell? ⟨W.heap.size+1,0,none⟩=some (.bool true):=(by rw[aG HF7.o.x];rfl);cases hu:bH ts k6 [wUpdate] with
   |some k8=>
    have HU:=aB hu;have HE8:=aB (show R=(setsR ts k8).bind fun k5 l=> .good k5 ⟨true,.mk xk (x1,x2,x3) xt xn xo xa,2,l,[],[]⟩ from by rw[HE6.o];unfold actR;rw[HT.o];simp only[if_true];rw[hu]);clear hu;go_wp2_with fail;refine(jD HS7.o [wUpdate] HU.o _ 1 _ _ rfl rfl aa aa).mono ?_;rintro e w8 ⟨rfl,hg8,hs8⟩;have HF8:=aB (HF7.o.next hbl hg8);have HS8:=aB hs8;have HA8:=aB (HA7.o.keep (fun _ h=>h) fun b (hb:_<=b) hl=>hg8.block b hl (fun e=>by injection e with e;omega));have hz8:=HF8.o.size;clear hg8 hs8 a0 f0;have a0:=cK HF8.o.r;go_wp2_with fail;refine(zsets_any HS8.o HTK.o).mono ?_;intro e w9 hp;obtain⟨hg9,k9,hs9,hcase⟩:=hp;have HF9:=aB (HF8.o.next hbl hg9);have HS9:=aB hs9;have HA9:=aB (HA8.o.keep (fun _ h=>h) fun b (hb:_<=b) hl=>hg9.block b hl (fun e=>by injection e with e;omega));clear hg9 hs9 a0;rcases hcase with⟨cl,v,hr9,hl,rfl⟩|⟨c,hc,hr9,rfl⟩
    rotate_left
    ·have HB:=aB ((HE8).o.trans (d2u.bind_bad hr9));clear hr9;go_wp2;exact⟨rfl,d2o.no (HF9).o.grown (HS9).o hc HB.o⟩
    have HE9:=aB (HE8.o.trans (d2u.bind_yes hr9));obtain⟨ca,cc,rfl,-⟩:=id hl;have HC9:=aB (hl.low (q:=fun b=>W.heap.size+2<=b) fun b _ (hb:_<=b)=>by omega);clear hr9 hl;go_wp2_with (refine bA (g:=W.heap.size+1) (i:=9) rfl rfl rfl rfl (whC true xk x1 x2 x3 xt xn xo (.slice asv xa.length csv) 2 (.slice none 0 0) (.slice none 0 0) (.slice none 0 0)) HF9.o.x rfl rfl akInfo rfl ?_)
    intro w10 hB10 hX10;go_wp2_with (refine bA (g:=W.heap.size+1) (i:=10) rfl rfl rfl rfl (whC true xk x1 x2 x3 xt xn xo (.slice asv xa.length csv) 2 (.slice ca cl.length cc) (.slice none 0 0) (.slice none 0 0)) hX10 rfl rfl slSetInfo rfl ?_)
    intro w11 hB11 hX11;have HF11:=aB ((HF9.o.but hB10 hX10).but hB11 hX11);have HS11:=aB ((HS9.o.but hB10 aE aE).but hB11 aE aE);have HA11:=aB ((HA9.o.but hB10 (fun i (hi:_<=i)=>by omega)).but hB11 (fun i (hi:_<=i)=>by omega));have HC11:=aB ((HC9.o.butG hB10 (fun i (hi:_<=i)=>by omega)).butG hB11 (fun i (hi:_<=i)=>by omega));clear hB10 hX10 hB11 hX11;have a9:=cK (HF11).o.r;go_wp2_with (first |(refine wpList_load_row rfl 87 (.tmp 2) rfl (W.heap.size+1) rfl 87 _ (0,0) _ (HF11).o.x underlying87 rfl whenInfo ?_)|(refine bA (g:=W.heap.size+1) (i:=0) rfl rfl rfl rfl (whC true xk x1 x2 x3 xt xn xo (.slice asv xa.length csv) 2 (.slice ca cl.length cc) (.slice none 0 0) (.slice none 0 0)) (HF11).o.x rfl rfl whenInfo rfl ?_))
    intro w9 hB9 hX9;go_wp2;refine bodyPost_ret (v:= .agg (whC true xk x1 x2 x3 xt xn xo (.slice asv xa.length csv) 2 (.slice ca cl.length cc) (.slice none 0 0) (.slice none 0 0)).toArray) (results_cell_row (p:=2) (ty:=87) rfl _ _ (W.heap.size+1) 87 _ (0,0) _ rfl hX9 underlying87 rfl whenInfo) rfl ?_;refine d2o.yes ((HF11).o.but hB9 hX9).grown ((HS11).o.but hB9 aE aE) (HE9).o ⟨_,rfl,_,_,_,_,rfl,?_,⟨(HC11.o.butG hB9 (fun i (hi:_<=i)=>by omega)).low fun b _ (hb:_<=b)=>by omega,RowsG.nil _ _ _ _,bG.nil _ _ _ _⟩⟩;exact(HA11.o.but hB9 (fun i (hi:_<=i)=>by omega)).of fun b _ (hb:_<=b)=>by omega
   |none=>
    have HU:=aB hu;clear hu;go_wp2_with fail;refine(kM HS7.o [wUpdate] HU.o _ 1 _ _ rfl rfl aa aa).mono ?_;rintro e w8 ⟨rfl,hg8,hs8⟩;have HF8:=aB (HF7.o.next hbl hg8);have HS8:=aB hs8;have HA8:=aB (HA7.o.keep (fun _ h=>h) fun b (hb:_<=b) hl=>hg8.block b hl (fun e=>by injection e with e;omega));clear hg8 hs8 a0 f0;have a0:=cK HF8.o.r;have f0:w8.cell? ⟨W.heap.size+1,0,none⟩=some (.bool true):=(by rw[aG HF8.o.x];rfl);cases hd:bH ts k6 [wDelete] with
    |some k9=>
     have HD:=aB hd;have HE9:=aB (show R= .good k9 ⟨true,.mk xk (x1,x2,x3) xt xn xo xa,3,[],[],[]⟩ from by rw[HE6.o];unfold actR;rw[HT.o];simp only[if_true];rw[HU.o];simp only;rw[hd]);clear hd;go_wp2_with fail;refine(jD HS8.o [wDelete] HD.o _ 1 _ _ rfl rfl aa aa).mono ?_;rintro e w9 ⟨rfl,hg9,hs9⟩;have HF9:=aB (HF8.o.next hbl hg9);have HS9:=aB hs9;have HA9:=aB (HA8.o.keep (fun _ h=>h) fun b (hb:_<=b) hl=>hg9.block b hl (fun e=>by injection e with e;omega));clear hg9 hs9 a0 f0;go_wp2_with (refine bA (g:=W.heap.size+1) (i:=9) rfl rfl rfl rfl (whC true xk x1 x2 x3 xt xn xo (.slice asv xa.length csv) 3 (.slice none 0 0) (.slice none 0 0) (.slice none 0 0)) HF9.o.x rfl rfl akInfo rfl ?_)
     intro w10 hB10 hX10;have HF10:=aB (HF9.o.but hB10 hX10);have HS10:=aB (HS9.o.but hB10 aE aE);have HA10:=aB (HA9.o.but hB10 (fun i (hi:_<=i)=>by omega));clear hB10 hX10;have a9:=cK (HF10).o.r;go_wp2_with (first |(refine wpList_load_row rfl 87 (.tmp 2) rfl (W.heap.size+1) rfl 87 _ (0,0) _ (HF10).o.x underlying87 rfl whenInfo ?_)|(refine bA (g:=W.heap.size+1) (i:=0) rfl rfl rfl rfl (whC true xk x1 x2 x3 xt xn xo (.slice asv xa.length csv) 3 (.slice none 0 0) (.slice none 0 0) (.slice none 0 0)) (HF10).o.x rfl rfl whenInfo rfl ?_))
     intro w9 hB9 hX9;go_wp2;refine bodyPost_ret (v:= .agg (whC true xk x1 x2 x3 xt xn xo (.slice asv xa.length csv) 3 (.slice none 0 0) (.slice none 0 0) (.slice none 0 0)).toArray) (results_cell_row (p:=2) (ty:=87) rfl _ _ (W.heap.size+1) 87 _ (0,0) _ rfl hX9 underlying87 rfl whenInfo) rfl ?_;refine d2o.yes ((HF10).o.but hB9 hX9).grown ((HS10).o.but hB9 aE aE) (HE9).o ⟨_,rfl,_,_,_,_,rfl,?_,⟨RowsG.nil _ _ _ _,RowsG.nil _ _ _ _,bG.nil _ _ _ _⟩⟩;exact(HA10.o.but hB9 (fun i (hi:_<=i)=>by omega)).of fun b _ (hb:_<=b)=>by omega
    |none=>
     have HD:=aB hd;have HE9:=aB (show R= .bad 261 from by rw[HE6.o];unfold actR;rw[HT.o];simp only[if_true];rw[HU.o];simp only;rw[hd]);clear hd;go_wp2_with fail;refine(kM HS8.o [wDelete] HD.o _ 1 _ _ rfl rfl aa aa).mono ?_;rintro e w9 ⟨rfl,hg9,hs9⟩;have HF9:=aB (HF8.o.next hbl hg9);have HS9:=aB hs9;clear hg9 hs9 a0 f0;have f0:w9.cell? ⟨W.heap.size+1,0,none⟩=some (.bool true):=(by rw[aG HF9.o.x];rfl);go_wp2_with fail
     (with_reducible refine(zmust_no _ _).mono ?_)
     rintro e w' ⟨rfl,rfl⟩;go_wp2;exact⟨rfl,d2o.no HF9.o.grown HS9.o (.inr (.inl rfl)) HE9.o⟩
end
end Go.Proofs.YtohlomdapelgeaaGreatDoor
