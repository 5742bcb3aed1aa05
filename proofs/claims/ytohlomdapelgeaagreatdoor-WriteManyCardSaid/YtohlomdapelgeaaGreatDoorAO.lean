/- Texts Q5 SB Q6 SC. -/
import Derived.Test.YtohlomdapelgeaaGreatDoorAN
import Derived.Test.YtohlomdapelgeaaGreatDoorAE
import Derived.Test.YtohlomdapelgeaaGreatDoorAM
import Derived.Test.YtohlomdapelgeaaGreatDoorAD
import Derived.Maps.AppendAt
namespace Go.Proofs.YtohlomdapelgeaaGreatDoor
open _root_.Go.Proofs.Tryz
open Go.RowKit
open _root_.Go.Addr renaming add->dY
open _root_.And renaming intro->bT
open _root_.Array renaming getElem?_eq_some_iff->aC,replicate->kD
open _root_.Bool renaming and_eq_true->aQ,false_eq_true->fM,not_eq_true'->nT,or_eq_true->jO
open _root_.Go.Lib renaming cell_of_heap->aG,hid->aB
open _root_.List renaming all_eq_true->jA,append_assoc->iK,getElem?_eq_getElem->aP,length->lV,length_append->bD,length_cons->aX,map_append->kW,map_cons->kP,map_nil->qZ,mem_append->iX,mem_singleton->gQ,nil_append->cB
open _root_.Nat renaming add_comm->oJ,le_refl->aH,le_trans->jH,zero_add->gD,zero_le->dL
open _root_.Option renaming map_some->lX
open _root_.Go.World renaming ownsRow_nil->d2l,size_alloc->aR
set_option maxRecDepth 100000
set_option maxHeartbeats 4000000
section
abbrev endB:kG:=(4,[],(0,0,[]))
def HeadIn(S:List (List UInt8))(l:List kG):Prop:=∃b m,l=b::m/\(b=endB\/∃w∈S,b=wd w)
theorem HeadIn.more{S T:List (List UInt8)}{l:List kG}(h:HeadIn S l)(hs:∀w∈S,w∈T):HeadIn T l:=by
 obtain⟨b,m,e,hb⟩:=h;exact⟨b,m,e,hb.imp id fun⟨w,hw,e⟩=>⟨w,hs w hw,e⟩⟩
theorem HeadIn.seg{S:List (List UInt8)}{l seg:List kG}{w:List UInt8}(h:HeadIn S l)(hs:seg=[]\/∃q,seg=wd w::q):HeadIn (w::S) (seg++l):=by
 rcases hs with rfl|⟨q,rfl⟩
 ·exact h.more fun v hv=>by simp[hv]
 ·exact⟨wd w,q++l,rfl,.inr ⟨w,by simp,rfl⟩⟩
abbrev afterW:List (List UInt8):=[wOn,wReturning]
abbrev behindW:List (List UInt8):=d5v::d6o::d4q::d3v::d5n::d6p::afterW
theorem head_all{p:kG->Prop}(h0:p endB){S:List (List UInt8)}(h:∀w∈S,p (wd w)){b:kG}(hb:b=endB\/∃w∈S,b=wd w):p b:=by
 rcases hb with rfl|⟨w,hw,rfl⟩
 ·exact h0
 ·exact h w hw
def okB(b:kG):Bool:=endsB b&& !bIs b wAs&& !bIs b [44]&& !bIs b e6b&& !bIs b d4e
theorem behind_ok{b:kG}(hb:b=endB\/∃w∈behindW,b=wd w):okB b=true:=
 head_all (p:=fun b=>okB b=true) ab ab hb
theorem ok_parts{b:kG}(h:okB b=true):EndsE b/\bIs b wAs=false/\bIs b [44]=false/\bIs b e6b=false/\bIs b d4e=false:=by
 unfold okB at h;simp only[aQ,nT] at h;exact⟨endsE_of h.1.1.1.1,h.1.1.1.2,h.1.1.2,h.1.2,h.2⟩
theorem jo_reads{ts:List Tok}(hT:lC ts){j:Jo}(h:d4c j.s=true)(hc:eH j.on=true)(hd:rY j.on<=60){k:Nat}{b:kG}{m:List kG}(hr:Rest ts k (tkSo j.s++wd wOn::(tkE j.on++b::m)))(he:EndsE b):
  d5h ts k= .good (k+(tkSo j.s).length+1+(tkE j.on).length) j:=by
 unfold d5h;rw[so_reads h hr ab];simp only[d2u.bind];have hr2:=hr.app;rw[take_one hr2 aa ab];simp only;rw[expr_reads hT hc hd hr2.tail he]
theorem jos_reads{ts:List Tok}(hT:lC ts):∀(l:List Jo) (f k:Nat) (acc:List Jo) (R:List kG),(∀j∈l,d4c j.s=true/\eH j.on=true/\rY j.on<=60)->HeadIn (d6o::d4q::d3v::d5n::d6p::afterW) R->l.length<f->Rest ts k (l.flatMap tkJo++R)->
  d4u ts f k acc= .good (k+(l.flatMap tkJo).length) (acc++l)
 |_,0,_,_,_,_,_,h,_=>by omega
 |[],f+1,k,acc,R,_,hR,_,hr=>by
  obtain⟨b,m,rfl,hb⟩:=hR;have hr1:Rest ts k (b::m):=hr;unfold d4u;rw[gZ hr1 (head_all (p:=fun b=>bIs b d5v=false) ab ab hb)];simp
 |j::l,f+1,k,acc,R,h,hR,hf,hr=>by
  obtain⟨h1,h2,h3⟩:=h j aa;have e:(j::l).flatMap tkJo++R=wd d5v::(tkSo j.s++wd wOn::(tkE j.on++(l.flatMap tkJo++R))):=(by simp[tkJo]);rw[e] at hr;have hnext:HeadIn behindW (l.flatMap tkJo++R):=hR.seg (by
   cases l with
   |nil=>exact .inl rfl
   |cons a l=>exact .inr ⟨_,by simp[tkJo];rfl⟩)
  obtain⟨b,m,e2,hb⟩:=hnext;have hr1:=hr.tail;have hr2:=hr1.app.tail.app;have ih:=jos_reads hT l f (k+1+(tkSo j.s).length+1+(tkE j.on).length) (acc++[j]) R (fun i hi=>h i (by simp[hi])) hR (by simp at hf;omega) hr2;rw[e2] at hr1;unfold d4u;rw[take_one hr aa ab];simp only;rw[jo_reads hT h1 h2 h3 hr1 (ok_parts (behind_ok hb)).1];simp only[d2u.bind];rw[ih];simp[tkJo,Nat.add_assoc,oJ,Nat.add_left_comm]
theorem od_reads{ts:List Tok}(hT:lC ts){o:Od}(hc:eH o.x=true)(hd:rY o.x<=60){k:Nat}{b:kG}{m:List kG}(hr:Rest ts k (tkOd o++b::m))(he:EndsE b/\bIs b e6b=false/\bIs b d4e=false):d3f ts k= .good (k+(tkOd o).length) o:=by
 obtain⟨h1,h4,h5⟩:=he;obtain⟨x,down⟩:=o;unfold tkOd at hr⊢;unfold d3f;cases down
 ·have hr1:Rest ts k (tkE x++b::m):=by simpa using hr
  rw[expr_reads hT hc hd hr1 h1];simp only[d2u.bind];rw[gZ hr1.app h4];simp only;rw[gZ hr1.app h5];simp
 ·have hr1:Rest ts k (tkE x++wd d4e::b::m):=by simpa using hr
  rw[expr_reads hT hc hd hr1 (endsE_of ab)];simp only[d2u.bind];rw[gZ hr1.app ab];simp only;rw[take_one hr1.app aa ab];simp[Nat.add_assoc]
theorem maybe_reads{ts:List Tok}(hT:lC ts){w:List UInt8}(hw:bIs (wd w) w=true){x:Ex}(h:d3i x=true\/eH x=true)(hd:rY x<=60){k:Nat}{b:kG}{m:List kG}(hr:Rest ts k ((if d3i x then[] else wd w::tkE x)++b::m))(he:EndsE b)(hb:bIs b w=false):
  d3s ts w k= .good (k+(if d3i x then[] else wd w::tkE x:List kG).length) x:=by
 unfold d3s;split at hr
 ·rename_i hn;have hr1:Rest ts k (b::m):=hr;rw[gZ hr1 hb,if_pos hn,none_eq hn];rfl
 ·rename_i hn;have hr1:Rest ts k (wd w::(tkE x++b::m)):=hr;rw[take_one hr1 aa hw];simp only;rw[expr_reads hT (h.resolve_left hn) hd hr1.tail he,if_neg hn];simp[Nat.add_assoc,oJ]
theorem limit_reads{ts:List Tok}{n:Int}(hn: -1<=n){k:Nat}{b:kG}{m:List kG}(hr:Rest ts k ((if 0<=n then[wd d6p,oW (2,n,[])] else[])++b::m))(hb:bIs b d6p=false):d8h ts k= .good (k+(if 0<=n then[wd d6p,oW (2,n,[])] else[]:List kG).length) n:=by
 unfold d8h;split at hr
 ·rename_i h0;have hr1:Rest ts k (wd d6p::oW (2,n,[])::b::m):=hr;have hr2:=hr1.tail;rw[take_one hr1 aa ab];simp only;obtain⟨x,hx,hb⟩:=hr2.head;have hv:x.v=(2,n,[]):=by
   have:=congrArg (fun b:kG=>b.2.2) hb;rw[show oW (2,n,[])=(2,lit 2 n [],(2,n,[])) by unfold oW;rw[if_neg aa]] at this;exact this
  rw[hx];simp only;rw[hv,if_pos rfl,hr2.next aa,if_pos h0];rfl
 ·rename_i h0;have hr1:Rest ts k (b::m):=hr;rw[gZ hr1 hb,if_neg h0];have:n= -1:=aE;rw[this];rfl
theorem it_first{i:It}(h:d3r i=true):∃c q,tkIt i=c::q/\bIs c d2s=false:=by
 obtain⟨star,t,x,al⟩:=i;unfold d3r at h;unfold tkIt;cases star
 ·simp only[fM,if_false,aQ,beq_iff_eq] at h⊢;rw[named_split];have kw:∀f,a6u f->bIs (wd f) d2s=false:=fun f hf=>(by show(true&&(f==d2s))=false;rw[b9y hf.kw ae];rfl);rcases tkE_shape h.1.2 with⟨q,e⟩|⟨v,hv,e⟩|⟨f,hf,e⟩|⟨f,n,hf,hn,e⟩|⟨f,q,hf,e⟩<;>rw[e]
  ·exact⟨_,_,rfl,by decide⟩
  ·refine⟨_,_,rfl,?_⟩;obtain⟨v1,v2,v3⟩:=v;by_cases h01:v1=0\/v1=1
   ·obtain⟨_,hcs⟩:=vB hv;rcases hcs with⟨rfl,rfl,rfl⟩|⟨rfl,rfl,rfl⟩|⟨rfl,rfl,rfl⟩|⟨rfl,rfl⟩|⟨rfl,rfl⟩|⟨rfl,rfl⟩
    ·decide
    ·decide
    ·decide
    ·omega
    ·omega
    ·omega
   ·unfold oW;rw[if_neg h01];rfl
  ·exact⟨_,_,rfl,kw f hf⟩
  ·exact⟨_,_,rfl,kw f hf⟩
  ·exact⟨_,_,rfl,kw f hf⟩
 ·simp only[if_true,aQ,beq_iff_eq] at h⊢;split
  ·exact⟨_,_,rfl,by decide⟩
  ·rename_i h0;have hN:a6u t:=by
    have:=h.2;unfold d3c at this;simp only[jO,beq_iff_eq] at this;exact b0e (this.resolve_left h0)
   exact⟨_,_,rfl,by show(true&&(t==d2s))=false;rw[b9y hN.kw ae];rfl⟩
end
section
theorem zmust_yes(n:Int)(w:World):
  fW 94 #[.bool true,.int .i64 n] w fun e w'=>e= .returned (.tuple #[])/\w=w':=by
 go_enter func94,ntmps94;go_wp2;go_end0;exact⟨rfl,rfl⟩
theorem zmust_no(n:Int)(w:World):
  fW 94 #[.bool false,.int .i64 n] w fun e w'=>e= .panicked [{v:= .iface 47 (.int .i64 n),recovered:=false}]/\w=w':=by
 go_enter func94,ntmps94;go_wp2;exact⟨rfl,rfl,rfl⟩
theorem zcaught_idle(p:Addr)(g:Value)(w:World):
  CallsD prog 49 #[.pointer (some p),g] .returning w fun e u' w'=>e= .returned (.tuple #[])/\u'= .returning/\w=w':=by
 refine callsD_of_wpS func49 rfl fun c₀ cs hu=>?_;apply wpS_seq;apply wpS_region;simp[wpOpsS,go_sem,recoverD,hu,ntmps49,Exit.thenS];refine wpS_of_wp ?_;go_wp2;cases c₀
 simp_all [bodyPostS,results,results49]
theorem zcaught_panic(p:Addr)(x n:Int)(g:FuncId)(first cap args:Array Value)(ha:first++cap=args)(w:World)(R:World->Prop)(hc:w.cell? p=some (.int .i64 x))(hz:w.frozen? p=false)
  (hg:∀(args:Array Value) (w:World),(callFunc g args).run prog w= .ok (.enter g args) w)
  (hclear:fW g args (w.setCell p (.int .i64 n)) fun e w'=>e= .returned (.tuple #[])/\R w'):
  CallsD prog 49 #[.pointer (some p),.func (.func g) first cap] (.panicking [{v:= .iface 47 (.int .i64 n),recovered:=false}]) w fun e u' w'=>
   e= .returned (.tuple #[])/\u'= .panicking [{v:= .iface 47 (.int .i64 n),recovered:=true}]/\R w':=by
 subst ha;refine callsD_of_wpS func49 rfl fun c₀ cs hu=>?_;apply wpS_seq;apply wpS_region;simp[wpOpsS,go_sem,recoverD,hu,ntmps49,Exit.thenS];refine wpS_of_wp ?_;have H:=aB hclear;clear hclear;have hta:∀w,(Instr.typeAssert (.iface 47 (.int .i64 n)) 20 47 false).run prog w= .ok (.int .i64 n) w:=fun _=>af;rw[show ∀a b x:Value,#[a,b]++(((kD 12 undef).setIfInBounds 3 x).setIfInBounds 2 x)= #[a,b,undef,undef,x,x,undef,undef,undef,undef,undef,undef,undef,undef] from fun _ _ _=>rfl];go_wp2_with fail;refine H.o.mono ?_;rintro e w' ⟨rfl,hR⟩;go_wp2_with fail;cases c₀
 simp_all [bodyPostS,results,results49]
structure FrZ(W A:World)(bs:Nat)(T:TypeId)(cs:Array Value):Prop where
 grown:W.grownBy A (some bs)
 r:A.heap[W.heap.size]?=some (.cells #[.pointer (some ⟨bs,0,none⟩)] 122 (0,0))
 x:A.heap[W.heap.size+1]?=some (.cells cs T (0,0))
theorem FrZ.size{W A:World}{bs:Nat}{T:TypeId}{cs:Array Value}(h:FrZ W A bs T cs):W.heap.size+1<A.heap.size:=(aC.1 h.x).1
theorem FrZ.next{W A B:World}{bs:Nat}{T:TypeId}{cs:Array Value}(h:FrZ W A bs T cs)(hb:bs<W.heap.size)(hg:A.grownBy B (some bs)):FrZ W B bs T cs:=
 have hz:=h.size
 ⟨dA h.grown hg,(hg.block _ aE (fun e=>by injection e with e;omega)).trans h.r,(hg.block _ aE (fun e=>by injection e with e;omega)).trans h.x⟩
theorem FrZ.bl{W A B:World}{bs:Nat}{T:TypeId}{cs:Array Value}(h:FrZ W A bs T cs)(hb:Bl A B):FrZ W B bs T cs:=
 ⟨dA h.grown (gI hb _),(hb.block _ (by have:=h.size;omega)).trans h.r,(hb.block _ h.size).trans h.x⟩
theorem FrZ.start(W:World)(bs:Nat)(T:TypeId)(cs:Array Value):FrZ W ((W.alloc (.cells #[.pointer (some ⟨bs,0,none⟩)] 122)).alloc (.cells cs T)) bs T cs:=
 ⟨gI (((Bl.refl W).alloc _).alloc _) _,(aW _ _ aa).trans (aN _ _),aV _ _ aa⟩
theorem FrZ.set{W A:World}{bs:Nat}{T:TypeId}{cs:Array Value}(h:FrZ W A bs T cs)(i:Nat)(v:Value):FrZ W (A.setCell ⟨W.heap.size+1,i,none⟩ v) bs T (cs.setIfInBounds i v):=
 ⟨dP h.grown i aE v,(aM _ ⟨W.heap.size+1,i,none⟩ _ _ fN).trans h.r,lN h.x i v⟩
theorem zneed_yes{W:World}{bs g cap k k':Nat}{ts:List Tok}(h:iV W bs g cap ts k)(xs:List (List UInt8))(ht:bH ts k xs=some k')(cs:Array Value)(n b:Nat)(t:TypeId)(hcs:cs=(xs.map fun s=>S s).toArray)(hn:n=xs.length)(hm:xs.length<=1000000)(hb:b=W.heap.size):
  fW 193 #[RV bs,.slice (some ⟨b,0,none⟩) n n] (W.alloc (.cells cs t)) fun e w'=>e= .returned (.tuple #[])/\W.grownBy w' (some bs)/\iV w' bs g cap ts k':=by
 have H:=aB h;have hbl:=h.lt';subst hcs hn hb;have HB0:=aB (((Bl.refl W).alloc (.cells (xs.map fun s=>S s).toArray t)).alloc (.cells #[.pointer (some ⟨bs,0,none⟩)] 122));have HX:=aB (a7l (n₀:=((W.alloc (.cells (xs.map fun s=>S s).toArray t)).alloc (.cells #[.pointer (some ⟨bs,0,none⟩)] 122)).heap.size) (x:=bs) ((aW (W.alloc (.cells (xs.map fun s=>S s).toArray t)) (.cells #[.pointer (some ⟨bs,0,none⟩)] 122) aa).trans (aN W (.cells (xs.map fun s=>S s).toArray t))) ak aE);have HT:=aB ht;clear h ht;go_enter func193,ntmps193;go_wp2_with fail;refine(b4q (H.o.bl HB0.o) _ xs HX.o hm).mono ?_;rintro e w1 ⟨hg,hh⟩;rcases hh with⟨k2,h1,rfl,hs⟩|⟨h1,rfl,hs⟩
 ·rw[HT.o] at h1;injection h1 with h1;subst h1;have HS:=aB (bT (dA (gI HB0.o (some bs)) hg) hs);clear hg hs;go_wp2_with fail
  (with_reducible refine(zmust_yes _ _).mono ?_)
  rintro e w' ⟨rfl,rfl⟩;go_wp2;go_end0;exact⟨rfl,HS.o.1,HS.o.2⟩
 ·rw[HT.o] at h1;cases h1
theorem zneed_no{W:World}{bs g cap k:Nat}{ts:List Tok}(h:iV W bs g cap ts k)(xs:List (List UInt8))(ht:bH ts k xs=none)(cs:Array Value)(n b:Nat)(t:TypeId)(hcs:cs=(xs.map fun s=>S s).toArray)(hn:n=xs.length)(hm:xs.length<=1000000)(hb:b=W.heap.size):
  fW 193 #[RV bs,.slice (some ⟨b,0,none⟩) n n] (W.alloc (.cells cs t)) fun e w'=>e=Pan 261/\W.grownBy w' (some bs)/\iV w' bs g cap ts k:=by
 have H:=aB h;have hbl:=h.lt';subst hcs hn hb;have HB0:=aB (((Bl.refl W).alloc (.cells (xs.map fun s=>S s).toArray t)).alloc (.cells #[.pointer (some ⟨bs,0,none⟩)] 122));have HX:=aB (a7l (n₀:=((W.alloc (.cells (xs.map fun s=>S s).toArray t)).alloc (.cells #[.pointer (some ⟨bs,0,none⟩)] 122)).heap.size) (x:=bs) ((aW (W.alloc (.cells (xs.map fun s=>S s).toArray t)) (.cells #[.pointer (some ⟨bs,0,none⟩)] 122) aa).trans (aN W (.cells (xs.map fun s=>S s).toArray t))) ak aE);have HT:=aB ht;clear h ht;go_enter func193,ntmps193;go_wp2_with fail;refine(b4q (H.o.bl HB0.o) _ xs HX.o hm).mono ?_;rintro e w1 ⟨hg,hh⟩;rcases hh with⟨k2,h1,rfl,hs⟩|⟨h1,rfl,hs⟩
 ·rw[HT.o] at h1;cases h1
 ·have HS:=aB (bT (dA (gI HB0.o (some bs)) hg) hs);clear hg hs;go_wp2_with fail
  (with_reducible refine(zmust_no _ _).mono ?_)
  rintro e w' ⟨rfl,rfl⟩;go_wp2;exact⟨rfl,rfl,HS.o.1,HS.o.2⟩
theorem zname_yes{W:World}{bs g cap k k':Nat}{ts:List Tok}{n:List UInt8}(h:iV W bs g cap ts k)(hn:mM ts k=some (n,k')):fW 137 #[RV bs] W fun e w'=>e= .returned (S n)/\W.grownBy w' (some bs)/\iV w' bs g cap ts k':=by
 have HB0:=aB ((Bl.refl W).alloc (.cells #[.pointer (some ⟨bs,0,none⟩)] 122));have HN:=aB hn;clear hn;have H:=aB h;have hbl:=h.lt';have hgl:=h.gl;clear h;go_enter func137,ntmps137;go_wp2_with fail;refine(a3p (H.o.bl HB0.o) HN.o).mono ?_;rintro e w1 ⟨rfl,hg,hs⟩;have HS:=aB (bT (dA (gI HB0.o (some bs)) hg) hs);clear hg hs;go_wp2_with fail
 (with_reducible refine(zmust_yes _ _).mono ?_)
 rintro e w' ⟨rfl,rfl⟩;go_wp2;go_ret;exact⟨rfl,HS.o.1,HS.o.2⟩
theorem zname_no{W:World}{bs g cap k:Nat}{ts:List Tok}(h:iV W bs g cap ts k)(hn:mM ts k=none):fW 137 #[RV bs] W fun e w'=>e=Pan 261/\W.grownBy w' (some bs)/\iV w' bs g cap ts k:=by
 have HB0:=aB ((Bl.refl W).alloc (.cells #[.pointer (some ⟨bs,0,none⟩)] 122));have HN:=aB hn;clear hn;have H:=aB h;have hbl:=h.lt';have hgl:=h.gl;clear h;go_enter func137,ntmps137;go_wp2_with fail;refine(a8a (H.o.bl HB0.o) HN.o).mono ?_;rintro e w1 ⟨rfl,hg,hs⟩;have HS:=aB (bT (dA (gI HB0.o (some bs)) hg) hs);clear hg hs;go_wp2_with fail
 (with_reducible refine(zmust_no _ _).mono ?_)
 rintro e w' ⟨rfl,rfl⟩;go_wp2;exact⟨rfl,rfl,HS.o.1,HS.o.2⟩
theorem zname_any{W:World}{bs g cap k:Nat}{ts:List Tok}(h:iV W bs g cap ts k):fW 137 #[RV bs] W (d2o e7a bs g cap ts W (nameRW ts k)):=by
 cases hn:mM ts k with
 |none=>exact(zname_no h hn).mono fun e w' ⟨he,hg,hs⟩=>by subst he;exact d2o.no hg hs (.inr (.inl rfl)) (by unfold nameRW;rw[hn])
 |some q=>
  obtain⟨n,k'⟩:=q;exact(zname_yes h hn).mono fun e w' ⟨he,hg,hs⟩=>by subst he;exact d2o.yes hg hs (by unfold nameRW;rw[hn]) rfl
theorem zexpr_any{W:World}{bs g cap k:Nat}{ts:List Tok}(h:iV W bs g cap ts k)(hT:lC ts):fW 196 #[RV bs] W (d2o (d7p fEx W.heap.size) bs g cap ts W (d3j ts k)):=by
 have HB0:=aB (((Bl.refl W).alloc (.cells #[.pointer (some ⟨bs,0,none⟩)] 122)).alloc (.cells zC 38));have HF0:=aB (FrZ.start W bs 38 zC);have HT:=aB hT;obtain⟨R,HR⟩:∃R,Hid (R=d3j ts k):=⟨_,rfl⟩
 rw[<-HR.o];clear hT;have H:=aB h;have hbl:=h.lt';have hgl:=h.gl;clear h;go_enter func196,ntmps196;go_wp2_with fail;refine(b3p (H.o.bl HB0.o) HT.o).mono ?_;intro e w1 hp;obtain⟨hg1,hp⟩:=hp;have HF1:=aB (HF0.o.next hbl hg1);have hz1:=HF1.o.size;rcases hp with⟨k',x,v,hr,hs,hx,rfl⟩|⟨c,hc,hr,hs,rfl⟩
 ·have HE:=aB (show R= .good k' x from by rw[HR.o];unfold d3j;rw[hr]);have HS1:=aB hs;obtain⟨sv,rfl,hA⟩:=hx;obtain⟨a,c,rfl⟩:=hA.shape;obtain⟨xk,⟨x1,x2,x3⟩,xt,xn,xo,xa⟩:=x;simp only[Ex.k,Ex.v,Ex.t,Ex.n,Ex.o,Ex.args] at hA⊢;have HA1:=aB (show bG (fun b=>W.heap.size+2<=b) w1 (.slice a xa.length c) xa from hA.of fun b _ (hb:_<=b)=>by simp at hb;omega);clear hg1 hr hs hA;go_wp2_with fail
  (with_reducible refine(zmust_yes _ _).mono ?_)
  rintro e w' ⟨rfl,rfl⟩;have HB1:=aB ((Bl.refl w1).alloc (.cells #[.int .i64 xk,.int .i64 x1,.int .i64 x2,S x3,S xt,S xn,.int .i64 xo,.slice a xa.length c] 38));have HF2:=aB (HF1.o.bl HB1.o);obtain⟨⟨i0,i1,i2,i3,i4,i5,i6,i7⟩,f0,f2,f3,f4,f5,f6,f7,f8⟩:=eight HF1.o.x;go_wp2;obtain⟨⟨q0,q1,q2,q3,q4,q5,q6,q7⟩,-⟩:=eight ((aW (set8 w1 (W.heap.size+1) (.int .i64 xk) (.int .i64 x1) (.int .i64 x2) (S x3) (S xt) (S xn) (.int .i64 xo) (.slice a xa.length c)) (.cells #[.int .i64 xk,.int .i64 x1,.int .i64 x2,S x3,S xt,S xn,.int .i64 xo,.slice a xa.length c] 38) (by rw[zU];omega)).trans (bO HF1.o.x (.int .i64 xk) (.int .i64 x1) (.int .i64 x2) (S x3) (S xt) (S xn) (.int .i64 xo) (.slice a xa.length c)));refine bodyPost_ret (v:=EV xk (x1,x2,x3) xt xn xo (.slice a xa.length c)) (by simp[results,results196,go_sem,q0,q1,q2,q3,q4,q5,q6,q7]) rfl ?_;have hg9:=vU (uY HF1.o.grown (b:=W.heap.size+1) aE (.int .i64 xk) (.int .i64 x1) (.int .i64 x2) (S x3) (S xt) (S xn) (.int .i64 xo) (.slice a xa.length c)) (.cells #[.int .i64 xk,.int .i64 x1,.int .i64 x2,S x3,S xt,S xn,.int .i64 xo,.slice a xa.length c] 38);have hs9:=(HS1.o.set8 (b:=W.heap.size+1) aE aE (.int .i64 xk) (.int .i64 x1) (.int .i64 x2) (S x3) (S xt) (S xn) (.int .i64 xo) (.slice a xa.length c)).bl ((Bl.refl _).alloc (.cells #[.int .i64 xk,.int .i64 x1,.int .i64 x2,S x3,S xt,S xn,.int .i64 xo,.slice a xa.length c] 38));have hr9:=(HA1.o.set8' (b:=W.heap.size+1) (fun i (hi:_<=i)=>by omega) (.int .i64 xk) (.int .i64 x1) (.int .i64 x2) (S x3) (S xt) (S xn) (.int .i64 xo) (.slice a xa.length c)).bl ((Bl.refl _).alloc (.cells #[.int .i64 xk,.int .i64 x1,.int .i64 x2,S x3,S xt,S xn,.int .i64 xo,.slice a xa.length c] 38));exact d2o.yes hg9 hs9 HE.o (e3d (tT.low hr9 aE))
 ·have HE:=aB (show R= .bad c from by rw[HR.o];unfold d3j;rw[hr]);have HS1:=aB hs;clear hg1 hr hs;have hb:(c==0)=false:=by rcases hc with rfl|rfl<;>rfl
  go_wp2_with fail
  (with_reducible refine(zmust_no _ _).mono ?_)
  rintro e w' ⟨rfl,rfl⟩;go_wp2;exact⟨rfl,d2o.no (dA HF1.o.grown (gI ((Bl.refl w1).alloc _) _)) (HS1.o.bl ((Bl.refl w1).alloc _)) (by rcases hc with h|h<;>simp[h]) HE.o⟩
structure FrY(W A:World)(bs:Nat):Prop where
 grown:W.grownBy A (some bs)
 r:A.heap[W.heap.size]?=some (.cells #[.pointer (some ⟨bs,0,none⟩)] 122 (0,0))
theorem FrY.size{W A:World}{bs:Nat}(h:FrY W A bs):W.heap.size<A.heap.size:=(aC.1 h.r).1
theorem FrY.next{W A B:World}{bs:Nat}(h:FrY W A bs)(hb:bs<W.heap.size)(hg:A.grownBy B (some bs)):FrY W B bs:=
 have hz:=h.size
 ⟨dA h.grown hg,(hg.block _ aE (fun e=>by injection e with e;omega)).trans h.r⟩
theorem FrY.bl{W A B:World}{bs:Nat}(h:FrY W A bs)(hb:Bl A B):FrY W B bs:=⟨dA h.grown (gI hb _),(hb.block _ h.size).trans h.r⟩
theorem FrY.start(W:World)(bs:Nat):FrY W (W.alloc (.cells #[.pointer (some ⟨bs,0,none⟩)] 122)) bs:=⟨gI ((Bl.refl W).alloc _) _,aN _ _⟩
theorem FrY.own{W A B:World}{bs:Nat}{r:Option Nat}(h:FrY W A bs)(hg:A.grownBy B r)(hr:∀j,r=some j->W.heap.size+1<=j):FrY W B bs:=
 have hz:=h.size
 ⟨⟨hg.1.trans h.grown.1,hg.2.trans h.grown.2,hg.3.trans h.grown.3,jH h.grown.4 hg.4,fun i hi hb=>(hg.block i aE (fun e=>by have:=hr i e.symm;omega)).trans (h.grown.block i hi hb)⟩,
  (hg.block _ aE (fun e=>by have:=hr _ e.symm;omega)).trans h.r⟩
end
section
structure DeepQ(q:Qu):Prop where
 items:∀i∈q.items,rY i.x<=60
 joins:∀j∈q.joins,rY j.on<=60
 wher:rY q.wher<=60
 group:∀x∈q.group,rY x<=60
 having:rY q.having<=60
 orders:∀o∈q.orders,rY o.x<=60
theorem tkE_pos{x:Ex}(h:eH x=true):1<=(tkE x).length:=by
 obtain⟨c,q,e,_⟩:=first_of h;rw[e];simp
theorem tkIt_pos{i:It}(h:d3r i=true):1<=(tkIt i).length:=by
 obtain⟨c,q,e,_⟩:=it_first h;rw[e];simp
theorem jo_count(l:List Jo):l.length<=(l.flatMap tkJo).length:=by
 induction l with
 |nil=>simp
 |cons j l ih=>simp[tkJo] at ih⊢;omega
theorem Rest.short{ts:List Tok}{k:Nat}{l m:List kG}(h:Rest ts k (l++m))(hk:k<=ts.length):k+l.length+m.length=ts.length:=by
 unfold Rest at h;have:=congrArg lV h;simp at this;omega
theorem if_head{p:Prop}[Decidable p]{w:List UInt8}{q:List kG}:(if p then[] else wd w::q:List kG)=[]\/∃r,(if p then[] else wd w::q:List kG)=wd w::r:=by
 split
 ·exact .inl rfl
 ·exact .inr ⟨_,rfl⟩
theorem query_reads{ts:List Tok}(hT:lC ts){q:Qu}(h:looseQ q=true)(hd:DeepQ q){K:Nat}(hK:K<=ts.length){R:List kG}(hR:HeadIn afterW R)(hr:Rest ts K (tkQ q++R)):d6b ts K= .good (K+(tkQ q).length) q:=by
 have hlen:=hr.short hK;have h0:=h;unfold looseQ at h;simp only[aQ,jO,decide_eq_true_eq,jA] at h;obtain⟨⟨⟨⟨⟨⟨⟨⟨hi0,hi⟩,hs⟩,hw⟩,hh⟩,hlim⟩,hj⟩,hg⟩,ho⟩:=h;obtain⟨distinct,items,frm,joins,wher,group,having,orders,limit⟩:=q;simp only at hi0 hi hs hw hh hlim hj hg ho;obtain⟨d1,d2,d3,d4,d5,d6⟩:=hd;simp only at d1 d2 d3 d4 d5 d6;obtain⟨L,hL⟩:∃L:List kG,L=(if 0<=limit then[wd d6p,oW (2,limit,[])] else[]):=⟨_,rfl⟩
 obtain⟨O,hO⟩:∃O:List kG,O=(if orders=[] then[] else wd d5n::wd wBy::lJ (orders.map tkOd)):=⟨_,rfl⟩
 obtain⟨V,hV⟩:∃V:List kG,V=(if d3i having then[] else wd d3v::tkE having):=⟨_,rfl⟩
 obtain⟨G,hG⟩:∃G:List kG,G=(if group=[] then[] else wd d4q::wd wBy::lJ (group.map tkE)):=⟨_,rfl⟩
 obtain⟨Wh,hWh⟩:∃Wh:List kG,Wh=(if d3i wher then[] else wd d6o::tkE wher):=⟨_,rfl⟩
 have H9:HeadIn (d6p::afterW) (L++R):=hR.seg (by rw[hL];split;exact .inr ⟨_,rfl⟩;exact .inl rfl);have H8:HeadIn (d5n::d6p::afterW) (O++(L++R)):=H9.seg (by rw[hO];exact if_head);have H7:HeadIn (d3v::d5n::d6p::afterW) (V++(O++(L++R))):=H8.seg (by rw[hV];exact if_head);have H6:HeadIn (d4q::d3v::d5n::d6p::afterW) (G++(V++(O++(L++R)))):=H7.seg (by rw[hG];exact if_head);have H5:HeadIn (d6o::d4q::d3v::d5n::d6p::afterW) (Wh++(G++(V++(O++(L++R))))):=H6.seg (by rw[hWh];exact if_head);have H4:HeadIn behindW (joins.flatMap tkJo++(Wh++(G++(V++(O++(L++R)))))):=H5.seg (by
  cases joins with
  |nil=>exact .inl rfl
  |cons a l=>exact .inr ⟨_,by simp[tkJo];rfl⟩)
 have etk:tkQ ⟨distinct,items,frm,joins,wher,group,having,orders,limit⟩=wd d3h::((if distinct then[wd d2s] else[])++(lJ (items.map tkIt)++wd d5p::(tkSo frm++(joins.flatMap tkJo++(Wh++(G++(V++(O++L)))))))):=by
  unfold tkQ;rw[hL,hO,hV,hG,hWh]
 rw[etk] at hr hlen⊢;have r0:Rest ts K (wd d3h::((if distinct then[wd d2s] else[])++(lJ (items.map tkIt)++wd d5p::(tkSo frm++(joins.flatMap tkJo++(Wh++(G++(V++(O++(L++R)))))))))):=dv;have r1:=r0.tail;have hne:items≠[]:=(by intro e;rw[e] at hi0;simp at hi0);obtain⟨kd,hkd,hsome,r2⟩:∃kd,(bH ts (K+1) [d2s]).getD (K+1)=kd/\(bH ts (K+1) [d2s]).isSome=distinct/\Rest ts kd (lJ (items.map tkIt)++wd d5p::(tkSo frm++(joins.flatMap tkJo++(Wh++(G++(V++(O++(L++R)))))))):=by
  cases distinct
  ·have r1':Rest ts (K+1) (lJ (items.map tkIt)++wd d5p::(tkSo frm++(joins.flatMap tkJo++(Wh++(G++(V++(O++(L++R)))))))):=r1;obtain⟨c,t,e,hc⟩:∃c t,lJ (items.map tkIt)=c::t/\bIs c d2s=false:=by
    match items,hne with
    |[i],_=>exact it_first (hi i aa)
    |i::i2::l,_=>
     obtain⟨c,t,e,hc⟩:=it_first (hi i aa);exact⟨c,t++sg 44::lJ ((i2::l).map tkIt),by simp[lJ,e],hc⟩
   have r1c:=r1';rw[e] at r1c;have hno:bH ts (K+1) [d2s]=none:=gZ r1c hc _;exact⟨K+1,by rw[hno];rfl,by rw[hno];rfl,r1'⟩
  ·have r1':Rest ts (K+1) (wd d2s::(lJ (items.map tkIt)++wd d5p::(tkSo frm++(joins.flatMap tkJo++(Wh++(G++(V++(O++(L++R))))))))):=r1;have hyes:=take_one r1' aa (s:=d2s) ab;exact⟨K+1+1,by rw[hyes];rfl,by rw[hyes];rfl,r1'.tail⟩
 have hkdl:kd<=ts.length:=by
  have:(bH ts (K+1) [d2s]).getD (K+1)<=K+2:=by
   cases distinct
   ·have:bH ts (K+1) [d2s]=none:=by simpa using hsome
    rw[this];simp
   ·have r1':Rest ts (K+1) (wd d2s::_):=r1;have hyes:=take_one r1' aa (s:=d2s) ab;rw[hyes];simp
  have:K+2<=ts.length:=(by have e:=hlen;simp only[aX,bD] at e;omega);omega
 have s2:=r2.short hkdl;have hit:d7m ts kd= .good (kd+(lJ (items.map tkIt)).length) items:=by
  have:=list_reads (ts:=ts) (one:=d3x ts) (tk:=tkIt) EndsI ⟨endsE_of ab,by decide⟩ items ts.length kd [] (wd d5p) _ hne (fun i hm k b m hr he=>it_reads hT (hi i hm) (fun _=>d1 i hm) hr he) ⟨endsE_of ab,by decide⟩ ab (by
   have:=join_len (tk:=tkIt) items fun i hm=>tkIt_pos (hi i hm);omega) r2
  simpa[d7m] using this
 have r3:=r2.app;have r4:=r3.tail;obtain⟨b4,m4,e4,hb4⟩:=H4;have r4':=r4;rw[e4] at r4';have hso:=so_reads hs r4' (ok_parts (behind_ok hb4)).2.1;have r5:=r4.app;have l6:∀{k:Nat} {l m:List kG},Rest ts k (l++m)->k<=ts.length->k+l.length<=ts.length:=fun hq hk=>by
  have:=hq.short hk;omega
 have k3:=l6 r2 hkdl;have k4:kd+(lJ (items.map tkIt)).length+1<=ts.length:=(by have:=r3.lt;omega);have k5:=l6 r4 k4;have hjo:=jos_reads hT joins ts.length _ [] _ (fun j hm=>⟨(hj j hm).1,(hj j hm).2,d2 j hm⟩) H5 (by
  have c:=jo_count joins;have e:=r5.short k5;obtain⟨b5,m5,e5,_⟩:=H5;rw[e5] at e;simp only[aX] at e;omega) r5
 have r6:=r5.app;obtain⟨b6,m6,e6,hb6⟩:=H6;have r6':=r6;rw[hWh,e6] at r6';have ok6:=ok_parts (behind_ok (hb6.imp id fun⟨w,hw,e⟩=>⟨w,by revert hw;simp;intro hw;simp[hw],e⟩));have hwh:=maybe_reads hT ab hw d3 r6' ok6.1 (head_all (p:=fun b=>bIs b d6o=false) ab ab hb6);rw[<-hWh] at hwh;have r7:=r6.app;obtain⟨b7,m7,e7,hb7⟩:=H7;have ok7:=ok_parts (behind_ok (hb7.imp id fun⟨w,hw,e⟩=>⟨w,by revert hw;simp;intro hw;simp[hw],e⟩));have hgr:d4v ts (0+1)=d4v ts (0+1):=rfl;clear hgr;have hgr:∀k,Rest ts k (G++(V++(O++(L++R))))->k<=ts.length->d4v ts k= .good (k+G.length) group:=by
  intro k hk hkl;unfold d4v;by_cases hg0:group=[]
  ·rw[if_pos hg0] at hG;subst hG;rw[e7] at hk;have hk':Rest ts k (b7::m7):=hk;rw[gZ hk' (head_all (p:=fun b=>bIs b d4q=false) ab ab hb7),hg0];rfl
  ·rw[if_neg hg0] at hG;have hsh:=hk.short hkl;subst hG;have hk':Rest ts k (wd d4q::wd wBy::(lJ (group.map tkE)++b7::m7)):=(by rw[e7] at hk;simpa using hk);rw[sK hk' aa ab,take_one hk'.tail aa ab];simp only;have:=list_reads (ts:=ts) (one:=d3j ts) (tk:=tkE) EndsE (endsE_of ab) group ts.length (k+1+1) [] b7 m7 hg0 (fun x hm k b m hr he=>expr_reads hT (hg x hm) (d4 x hm) hr he) ok7.1 ok7.2.2.1 (by
    have:=join_len (tk:=tkE) group fun x hm=>tkE_pos (hg x hm);simp at hsh;omega) hk'.tail.tail
   rw[this,cB]
   congr 1
   simp only[aX];omega
 have r8:=r7.app;obtain⟨b8,m8,e8,hb8⟩:=H8;have ok8:=ok_parts (behind_ok (hb8.imp id fun⟨w,hw,e⟩=>⟨w,by revert hw;simp;intro hw;simp[hw],e⟩));have hhv:∀k,Rest ts k (V++(O++(L++R)))->d5u ts group k= .good (k+V.length) having:=by
  intro k hk;unfold d5u;split
  ·rename_i hg0;have hn:d3i having=true:=by
    rcases hh with hn|⟨_,hp⟩
    ·exact hn
    ·rw[hg0] at hp;simp at hp
   rw[if_pos hn] at hV;subst hV;rw[none_eq hn];rfl
  ·rw[hV,e8] at hk;have:=maybe_reads hT ab (hh.imp id And.left) d5 hk ok8.1 (head_all (p:=fun b=>bIs b d3v=false) ab ab hb8);rw[this,<-hV]
 obtain⟨b9,m9,e9,hb9⟩:=H9;have ok9:=behind_ok (hb9.imp id fun⟨w,hw,e⟩=>⟨w,by revert hw;simp;intro hw;simp[hw],e⟩);have hor:∀k,Rest ts k (O++(L++R))->k<=ts.length->d5s ts k= .good (k+O.length) orders:=by
  intro k hk hkl;unfold d5s;by_cases ho0:orders=[]
  ·rw[if_pos ho0] at hO;subst hO;rw[e9] at hk;have hk':Rest ts k (b9::m9):=hk;rw[gZ hk' (head_all (p:=fun b=>bIs b d5n=false) ab ab hb9),ho0];rfl
  ·rw[if_neg ho0] at hO;have hsh:=hk.short hkl;subst hO;have hk':Rest ts k (wd d5n::wd wBy::(lJ (orders.map tkOd)++b9::m9)):=(by rw[e9] at hk;simpa using hk);rw[sK hk' aa ab,take_one hk'.tail aa ab];simp only;have:=list_reads (ts:=ts) (one:=d3f ts) (tk:=tkOd) (fun b=>EndsE b/\bIs b e6b=false/\bIs b d4e=false) ⟨endsE_of ab,by decide,by decide⟩ orders ts.length (k+1+1) [] b9 m9 ho0 (fun o hm k b m hr he=>od_reads hT (ho o hm) (d6 o hm) hr he) ⟨(ok_parts ok9).1,(ok_parts ok9).2.2.2.1,(ok_parts ok9).2.2.2.2⟩ (ok_parts ok9).2.2.1 (by
    have:=join_len (tk:=tkOd) orders fun o hm=>by
     have:=tkE_pos (ho o hm);unfold tkOd;simp;omega
    simp at hsh;omega) hk'.tail.tail
   rw[this,cB]
   congr 1
   simp only[aX];omega
 have hli:∀k,Rest ts k (L++R)->d8h ts k= .good (k+L.length) limit:=by
  intro k hk;rw[hL] at hk⊢;obtain⟨b,m,e,hb⟩:=hR;rw[e] at hk;exact limit_reads hlim hk (head_all (p:=fun b=>bIs b d6p=false) ab ab hb)
 have k6:=l6 r5 k5;have k7:=l6 r6 k6;have k8:=l6 r7 k7;have r9:=r8.app;have k9:=l6 r8 k8;have r10:=r9.app;have rend:=r10.app;have hQ:d6b ts K= .good (kd+(lJ (items.map tkIt)).length+1+(tkSo frm).length+(joins.flatMap tkJo).length+Wh.length+G.length+V.length+O.length+L.length) ⟨distinct,items,frm,joins,wher,group,having,orders,limit⟩:=by
  unfold d6b;rw[take_one r0 aa ab];simp only;rw[hkd,hsome,hit];simp only[d2u.bind];rw[take_one r3 (by rw[e4];simp) ab];simp only;rw[hso];simp only;rw[hjo];simp only[cB];rw[hwh];simp only;rw[hgr _ r7 k7];simp only;rw[hhv _ r8];simp only;rw[hor _ r9 k9];simp only;rw[hli _ r10]
 rw[hQ]
 congr 1
 have hkd2:kd=K+1+(if distinct then[wd d2s] else[]:List kG).length:=by
  cases distinct
  ·have:bH ts (K+1) [d2s]=none:=by simpa using hsome
   rw[this] at hkd;simpa using hkd.symm
  ·have r1':Rest ts (K+1) (wd d2s::_):=r1;rw[take_one r1' aa (s:=d2s) ab] at hkd;simpa using hkd.symm
 rw[hkd2];simp;omega
theorem q_reads{ts:List Tok}(hT:lC ts){q:Qu}(h:d3e q=true)(hd:DeepQ q){K:Nat}(hK:K<=ts.length){R:List kG}(hR:HeadIn afterW R)(hr:Rest ts K (tkQ q++R)):d5c ts K= .good (K+(tkQ q).length) q:=by
 obtain⟨h1,h2⟩:=right_loose h;unfold d5c;rw[query_reads hT h1 hd hK hR hr];simp only[d2u.bind];rw[h2,if_neg aa]
end
section
section
variable {P:Program}
theorem append_rowZ{o:Oper}{a:Act}{w:World}{K:Act->World->Prop}{Q:Exit->Act->World->Prop}(s x:Operand){TS T:TypeId}(ho:o.op= .call {callee:= .builtin .append,args:= #[s,x],argTypes:= #[TS,TS]}){N BY:Nat}{Z:Value}
  (hT:(P.info? T).map (fun i=>(i.zero,i.size,i.bytes))=some (some Z,N,BY)) (hu:P.underlying TS=some (.slice T)) (hZ:Z.cells.size=N) (hN:0<N) (hBY:BY<=1000)
  (base:Nat) (v:Value) (n:Nat) (xs:List Value) (hs:a.eval s=v) (hown:w.ownsRow base T N v n xs) (b:Nat) (cs:List Value) (hx:a.eval x= .slice (some ⟨b,0,none⟩) 1 1) {t:TypeId}
  (hb:w.heap[b]?=some (.cells cs.toArray t (0,0))) (hcs:cs.length=N) (h1:cs.all (·.oneCell')=true) (hfew:n<=1000000) (hbase:base<=w.heap.size)
  (h:∀v' w',w'.ownsRow base T N v' (n+1) (xs++cs)->w.grownBy w' v.ownBlock->(v'.ownBlock=v.ownBlock\/v'.ownBlock=some w.heap.size)->K (a.put o.dst v') w'):Oper.wp P o a w K Q:=by
 obtain⟨i,hi,hz0,hz1,hz2⟩:∃i,P.info? T=some i/\i.zero=some Z/\i.size=N/\i.bytes=BY:=by
  cases hi:P.info? T with
  |none=>rw[hi] at hT;cases hT
  |some i=>
   rw[hi] at hT;simp only[lX,Option.some.injEq,Prod.mk.injEq] at hT;exact⟨i,rfl,hT.1,hT.2.1,hT.2.2⟩
 obtain⟨v',w',hr,h2,h3,h4,h5⟩:=run_append_own_at (P:=P) w base TS o.type T i Z N BY hu hi hz0 hz1 hz2 hZ hN v n xs hown ⟨b,0,none⟩ 1 1 cs aE
  (by
   intro j u hj;have:w.cell? ⟨b,0+j,none⟩=some u:=by
    rw[aG hb,gD,<-hj];simp
   have e:(⟨b,0,none⟩:Addr).add j=⟨b,0+j,none⟩:=(by simp[dY];intro h;exact h.symm);rw[e];exact this)
  (fun u hu=>jA.1 h1 u hu) ce (by
   have:=Nat.mul_le_mul (show n+1<=1000001 by omega) hBY;omega) hbase
 unfold Oper.wp execOp;simp only[ho,resolve,invoke,builtin,Sem.run_bind,Sem.run_pure,Result.andThen_ok,List.map_toArray,kP,qZ,hs,hx,hr];exact h v' w' h2 h3 h5
theorem wpList_append_rowZ{ops:Array Oper}{rest:List Oper}{o:Oper}{a:Act}{w:World}{Q:Exit->Act->World->Prop}(hgd:o.guard=none)(s x:Operand){TS T:TypeId}(ho:o.op= .call {callee:= .builtin .append,args:= #[s,x],argTypes:= #[TS,TS]}){N BY:Nat}{Z:Value}
  (hT:(P.info? T).map (fun i=>(i.zero,i.size,i.bytes))=some (some Z,N,BY)) (hu:P.underlying TS=some (.slice T)) (hZ:Z.cells.size=N) (hN:0<N) (hBY:BY<=1000)
  (base:Nat) (v:Value) (n:Nat) (xs:List Value) (hs:a.eval s=v) (hown:w.ownsRow base T N v n xs) (b:Nat) (cs:List Value) (hx:a.eval x= .slice (some ⟨b,0,none⟩) 1 1) {t:TypeId}
  (hb:w.heap[b]?=some (.cells cs.toArray t (0,0))) (hcs:cs.length=N) (h1:cs.all (·.oneCell')=true) (hfew:n<=1000000) (hbase:base<=w.heap.size)
  (h:∀v' w',w'.ownsRow base T N v' (n+1) (xs++cs)->w.grownBy w' v.ownBlock->(v'.ownBlock=v.ownBlock\/v'.ownBlock=some w.heap.size)->wpList P ops Q rest (a.put o.dst v') w'):wpList P ops Q (o::rest) a w:=
 wpList_plain hgd fun _ hK=>append_rowZ s x ho hT hu hZ hN hBY base v n xs hs hown b cs hx hb hcs h1 hfew hbase fun v' w' h1 h2 h3=>hK _ _ (h v' w' h1 h2 h3)
end
def ReadsG{α:Type}(F:Shp α)(n:Nat)(w:World)(x:α)(v:Value):Prop:=∃cs,v.cells=cs.toArray/\F.lies (fun b=>n<=b) w x cs
abbrev RowsGV{α:Type}(F:Shp α)(n:Nat)(w:World)(l:List α)(v:Value):Prop:=RowsG F (fun b=>n<=b) w v l
theorem d2o.map{α:Type}{R R':World->α->Value->Prop}{bs g cap:Nat}{ts:List Tok}{W:World}{r:d2u α}{e:Ending}{w':World}(h:d2o R bs g cap ts W r e w')(hr:∀w x v,R w x v->R' w x v):d2o R' bs g cap ts W r e w':=by
 obtain⟨hg,k',hs,h⟩:=h;exact⟨hg,k',hs,h.imp (fun⟨x,v,h1,h2,h3⟩=>⟨x,v,h1,hr _ _ _ h2,h3⟩) id⟩
theorem readsG_text{n:Nat}{w:World}{x:List UInt8}{v:Value}(h:e7a w x v):ReadsG gStr n w x v:=⟨[S x],by rw[show v=S x from h];rfl,rfl⟩
theorem readsG_ex{n:Nat}{w:World}{x:Ex}{v:Value}(h:d7p fEx n w x v):ReadsG gEx n w x v:=by
 obtain⟨s,rfl,hA⟩:=h;exact⟨_,rfl,s,rfl,hA⟩
theorem readsG_row{n:Nat}{w:World}{l:List Ex}{v:Value}(h:RowsG gEx (fun b=>n<=b) w v l):ReadsG gRow n w l v:=by
 obtain⟨a,cap,rfl,-,hc⟩:=h;refine⟨[.slice a l.length cap],rfl,_,rfl,?_⟩;have hs:∀j,∃s:Value,∀x,l[j]?=some x->∃b off,a=some ⟨b,off,none⟩/\n<=b/\At8 w b (off+j * 8) x s/\bG (fun b=>n<=b) w s x.args:=fun j=>by
  cases hx:l[j]? with
  |none=>exact⟨.slice none 0 0,fun x h=>by cases h⟩
  |some x=>
   obtain⟨b,off,cs,e,hb,-,h8,s,rfl,hr⟩:=hc j x hx;exact⟨s,fun y hy=>by injection hy with hy;subst hy;exact⟨b,off,e,hb,yI fun i hi=>(h8 i _ (aP hi)).trans (aP hi).symm,hr⟩⟩
 obtain⟨G,hG⟩:=Classical.axiomOfChoice hs;refine .mk a cap l G (fun j x hx=>?_) (fun j x hx=>?_)
 ·obtain⟨b,off,e,hb,h8,-⟩:=hG j x hx;exact⟨b,off,e,hb,h8⟩
 ·obtain⟨b,off,e,hb,-,hr⟩:=hG j x hx;exact hr
theorem readsE_row{n:Nat}{w:World}{l:List Ex}{v:Value}(h:RowsG gEx (fun b=>n<=b) w v l):bG (fun b=>n<=b) w v l:=by
 obtain⟨cs,e,s,rfl,hr⟩:=readsG_row h;obtain⟨a,cap,rfl,-⟩:=h;have e:(#[Value.slice a l.length cap]:Array Value)= #[s]:=e;have e2:Value.slice a l.length cap=s:=bc;rw[e2];exact hr
theorem stInfoZ:(prog.info? 9).map (·.size)=some 1:=by kernel_rfl
theorem strInfoZ:(prog.info? 9).map (fun i=>(i.zero,i.size,i.bytes))=some (some (S []),1,16):=by kernel_rfl
theorem zname_g{W:World}{bs g cap k:Nat}{ts:List Tok}(h:iV W bs g cap ts k)(_:lC ts):fW 137 #[RV bs] W (d2o (ReadsG gStr W.heap.size) bs g cap ts W (nameRW ts k)):=(zname_any h).mono fun _ _ h=>h.map fun _ _ _ hr=>readsG_text hr
theorem zexpr_g{W:World}{bs g cap k:Nat}{ts:List Tok}(h:iV W bs g cap ts k)(hT:lC ts):fW 196 #[RV bs] W (d2o (ReadsG gEx W.heap.size) bs g cap ts W (d3j ts k)):=(zexpr_any h hT).mono fun _ _ h=>h.map fun _ _ _ hr=>readsG_ex hr
theorem zlistStr_any{W:World}{bs g cap k:Nat}{ts:List Tok}(h:iV W bs g cap ts k)(hT:lC ts):fW 247 #[RV bs,.func (.func 137) #[RV bs] #[]] W (d2o (RowsGV gStr W.heap.size) bs g cap ts W (d3o ts (nameRW ts) ts.length k [])):=by
 obtain⟨R,HR⟩:∃R,Hid (R=d3o ts (nameRW ts) ts.length k []):=⟨_,rfl⟩
 rw[<-HR.o];have HL0:=aB (show d8b ts (nameRW ts) R k [] from by rw[HR.o];exact d8b.start ts _ k);have HF0:=aB (FrY.start W bs);have HTK:=aB hT;have HS0:=aB (h.bl ((Bl.refl W).alloc (.cells #[.pointer (some ⟨bs,0,none⟩)] 122)));have hbl:=h.lt';have hgl:=h.gl;have HI1:=aB (show(prog.info? 9).map (fun i=>(i.zero.isSome,i.size))=some (true,1) from by kernel_rfl);have HI2:=aB (show(prog.info? 9).map (fun i=>(i.zero,i.size,i.bytes))=some (some (S []),1,16) from by kernel_rfl);clear h hT;go_enter func247,ntmps247;go_wp2_with fail;go_loopw [4] (fun o wr=>∃(v0:Value) (kk:Nat) (acc:List (_×List Value)),v0=o/\acc.length<=kk/\Hid (FrY W wr bs)/\Hid (iV wr bs g cap ts kk)/\Hid (wr.ownsRow (W.heap.size+1) 9 1 v0 acc.length (rowG acc))/\
  Hid (∀q∈acc,Shp.lies gStr (apartG (W.heap.size+1) wr v0) wr q.1 q.2)/\Hid (d8b ts (nameRW ts) R kk (acc.map (·.1)))) (fun _ wr=>ts.length-tH wr bs)
 case atStart=>exact⟨_,k,[],rfl,dL _,HF0.o,HS0.o,d2l _ _ _ _,aB (fun q hq=>by cases hq),HL0.o⟩
 case round=>
  clear HF0 HS0 HL0 HR;obtain⟨v0,kk,acc,rfl,hak,HF,HS,HO,HTR,HL⟩:=hrel;have hkk:=HS.o.lt;have hfew:=HS.o.few;have hzr:=HF.o.size;have p0:=cK HF.o.r;have HP:Hid (∀k1 x,nameRW ts kk= .good k1 x->kk<k1/\k1<ts.length):=fun k1 x h=>(nameRW_past HTK.o h)
  have HST:=aB (HL.o.step hkk fun k1 x h=>(HP.o k1 x h).1);go_wp2_with fail;refine(zname_g HS.o HTK.o).mono ?_;intro e w1 hp;obtain⟨hg1,k1,hs1,hcase⟩:=hp;have hz1:=hg1.4;have HF1:=aB (HF.o.next hbl hg1);have HS1:=aB hs1;have HO1:=aB (pO HO.o hg1 aE);have HTR1:=aB (show ∀q∈acc,Shp.lies gStr (apartG (W.heap.size+1) w1 v0) w1 q.1 q.2 from fun q hq=>lies_grown (HTR.o q hq) hg1 aE);have hlow:=aB HO.o.lt;clear p0 hg1 hs1;rcases hcase with⟨x,v,hr,hA,rfl⟩|⟨c,hc,hr,rfl⟩
  rotate_left
  ·have HB:=aB (HST.o.1 c hr);clear hr;go_wp2;exact⟨rfl,d2o.no HF1.o.grown HS1.o hc HB.o⟩
  obtain⟨cs,hvc,hcs⟩:=hA;have hcl:=Shp.len gStr hcs;have hco:=Shp.one gStr hcs;have HZ:=aB (show Shp.lies gStr (apartG (W.heap.size+1) w1 v0) w1 x cs from Shp.keep gStr (aH _) (fun b hl (hb:_<=b)=>⟨by omega,hl,fun e=>by have:=(hlow.o b e.symm).2;omega⟩) (fun _ _ _=>rfl) hcs);have HVC:=aB hvc;have HCL:=aB (show cs.length=1 from hcl);have HCO:=aB hco;have hlt1:=HP.o _ _ hr;have HG:=aB (HST.o.2 _ _ hr);clear hr hcs hvc hcl hco;go_wp2_with (first |(refine d8l (vs:=cs) rfl (t:=27) (y:= .tmp 7) rfl underlying27 HVC.o (by rw[HCL.o];exact HI1.o) bm ?_)|(at_builtin;refine wpList_append_rowZ rfl (.tmp 5) (.tmp 8) rfl HI2.o underlying27 rfl ab ab (W.heap.size+1) v0 acc.length (rowG acc) rfl (gY ((Bl.refl _).alloc _) HO1.o) w1.heap.size cs rfl (aN w1 _) HCL.o HCO.o aE am ?_))
  intro v' w6 hown6 hg6 hat;have HF6:=aB ((HF1.o.bl ((Bl.refl _).alloc _)).own hg6 (fun j e=>by have:=(hlow.o j e).1;omega));have HS6:=aB ((HS1.o.bl ((Bl.refl _).alloc _)).keep (hg6.block _ am (fun e=>by have:=(hlow.o _ e.symm).1;omega)) (hg6.block _ am (fun e=>by have:=(hlow.o _ e.symm).1;omega)));have HTR6:=aB (show ∀q∈acc++[(x,cs)],Shp.lies gStr (apartG (W.heap.size+1) w6 v') w6 q.1 q.2 from fun q hq=>by rcases iX.1 hq with hq|hq;exact lies_own (lies_bl (HTR1.o q hq) ((Bl.refl _).alloc _)) hg6 cA;obtain rfl:=gQ.1 hq;exact lies_own (lies_bl HZ.o ((Bl.refl _).alloc _)) hg6 cA);obtain⟨gn,cn,rfl⟩:=nG hown6;have HOW6:=aB (show w6.ownsRow (W.heap.size+1) 9 1 (.slice (some ⟨gn,0,none⟩) (acc.length+1) cn) (acc++[(x,cs)]).length (rowG (acc++[(x,cs)])) from by rw[bD,show rowG (acc++[(x,cs)])=rowG acc++cs from by simp[rowG]];exact hown6);have hz6:=HF6.o.size;have a0:=cK HF6.o.r;clear hown6 hg6 hat;cases ht:bH ts k1 [[44]] with
  |some k2=>
   have hk2:=kS HTK.o hlt1.2 ht;have HL6:=aB (HG.o.1 k2 ht hk2.1);have HT:=aB ht;clear ht;go_wp2_with fail;refine(jD HS6.o [[44]] HT.o _ 1 _ _ rfl rfl aa aa).mono ?_;rintro e w7 ⟨rfl,hg7,hs7⟩;have HG7:=aB hg7;have HS7:=aB hs7;clear hg7 hs7;go_wp2;go_roundw
   case rel=>exact⟨_,k2,acc++[(x,cs)],rfl,by rw[bD];simp;omega,HF6.o.next hbl HG7.o,HS7.o,pO HOW6.o HG7.o aE,aB (fun q hq=>lies_grown (HTR6.o q hq) HG7.o aE),by rw[kW];exact HL6.o⟩
   case measure=>have n1:=kY HS.o;have n2:=kY HS7.o;rw[n1,n2];omega
  |none=>
   have HE:=aB (HG.o.2 ht);have HT:=aB ht;clear ht;go_wp2_with fail;refine(kM HS6.o [[44]] HT.o _ 1 _ _ rfl rfl aa aa).mono ?_;rintro e w7 ⟨rfl,hg7,hs7⟩;have HG7:=aB hg7;have HS7:=aB hs7;clear hg7 hs7;go_wp2;go_ret;have hO7:=pO HOW6.o HG7.o aE;have hrows:=rows_ownG (F:=gStr) (l:=acc++[(x,cs)]) (p:=fun b=>W.heap.size<=b) hO7 (fun b hb _ _=>by omega) (fun q hq=>Shp.keep gStr (aH _) (fun b _ hb=>by have:=hb.1;omega) (fun _ _ _=>rfl) (lies_grown (HTR6.o q hq) HG7.o aE));rw[kW] at hrows;exact d2o.yes (HF6.o.next hbl HG7.o).grown HS7.o HE.o hrows
theorem zlistEx_any{W:World}{bs g cap k:Nat}{ts:List Tok}(h:iV W bs g cap ts k)(hT:lC ts):fW 291 #[RV bs,.func (.func 196) #[RV bs] #[]] W (d2o (RowsGV gEx W.heap.size) bs g cap ts W (d3o ts (d3j ts) ts.length k [])):=by
 obtain⟨R,HR⟩:∃R,Hid (R=d3o ts (d3j ts) ts.length k []):=⟨_,rfl⟩
 rw[<-HR.o];have HL0:=aB (show d8b ts (d3j ts) R k [] from by rw[HR.o];exact d8b.start ts _ k);have HF0:=aB (FrY.start W bs);have HTK:=aB hT;have HS0:=aB (h.bl ((Bl.refl W).alloc (.cells #[.pointer (some ⟨bs,0,none⟩)] 122)));have hbl:=h.lt';have hgl:=h.gl;have HI1:=aB (show(prog.info? 38).map (fun i=>(i.zero.isSome,i.size))=some (true,8) from by kernel_rfl);have HI2:=aB (show(prog.info? 38).map (fun i=>(i.zero,i.size,i.bytes))=some (some (.agg #[.int .i64 0,.int .i64 0,.int .i64 0,S [],S [],S [],.int .i64 0,.slice none 0 0]),8,104) from by kernel_rfl);clear h hT;go_enter func291,ntmps291;go_wp2_with fail;go_loopw [4] (fun o wr=>∃(v0:Value) (kk:Nat) (acc:List (_×List Value)),v0=o/\acc.length<=kk/\Hid (FrY W wr bs)/\Hid (iV wr bs g cap ts kk)/\Hid (wr.ownsRow (W.heap.size+1) 38 8 v0 acc.length (rowG acc))/\
  Hid (∀q∈acc,Shp.lies gEx (apartG (W.heap.size+1) wr v0) wr q.1 q.2)/\Hid (d8b ts (d3j ts) R kk (acc.map (·.1)))) (fun _ wr=>ts.length-tH wr bs)
 case atStart=>exact⟨_,k,[],rfl,dL _,HF0.o,HS0.o,d2l _ _ _ _,aB (fun q hq=>by cases hq),HL0.o⟩
 case round=>
  clear HF0 HS0 HL0 HR;obtain⟨v0,kk,acc,rfl,hak,HF,HS,HO,HTR,HL⟩:=hrel;have hkk:=HS.o.lt;have hfew:=HS.o.few;have hzr:=HF.o.size;have p0:=cK HF.o.r;have HP:Hid (∀k1 x,d3j ts kk= .good k1 x->kk<k1/\k1<ts.length):=fun k1 x h=>(d4j HTK.o hkk h)
  have HST:=aB (HL.o.step hkk fun k1 x h=>(HP.o k1 x h).1);go_wp2_with fail;refine(zexpr_g HS.o HTK.o).mono ?_;intro e w1 hp;obtain⟨hg1,k1,hs1,hcase⟩:=hp;have hz1:=hg1.4;have HF1:=aB (HF.o.next hbl hg1);have HS1:=aB hs1;have HO1:=aB (pO HO.o hg1 aE);have HTR1:=aB (show ∀q∈acc,Shp.lies gEx (apartG (W.heap.size+1) w1 v0) w1 q.1 q.2 from fun q hq=>lies_grown (HTR.o q hq) hg1 aE);have hlow:=aB HO.o.lt;clear p0 hg1 hs1;rcases hcase with⟨x,v,hr,hA,rfl⟩|⟨c,hc,hr,rfl⟩
  rotate_left
  ·have HB:=aB (HST.o.1 c hr);clear hr;go_wp2;exact⟨rfl,d2o.no HF1.o.grown HS1.o hc HB.o⟩
  obtain⟨cs,hvc,hcs⟩:=hA;have hcl:=Shp.len gEx hcs;have hco:=Shp.one gEx hcs;have HZ:=aB (show Shp.lies gEx (apartG (W.heap.size+1) w1 v0) w1 x cs from Shp.keep gEx (aH _) (fun b hl (hb:_<=b)=>⟨by omega,hl,fun e=>by have:=(hlow.o b e.symm).2;omega⟩) (fun _ _ _=>rfl) hcs);have HVC:=aB hvc;have HCL:=aB (show cs.length=8 from hcl);have HCO:=aB hco;have hlt1:=HP.o _ _ hr;have HG:=aB (HST.o.2 _ _ hr);clear hr hcs hvc hcl hco;go_wp2_with (first |(refine d8l (vs:=cs) rfl (t:=36) (y:= .tmp 7) rfl underlying36 HVC.o (by rw[HCL.o];exact HI1.o) bm ?_)|(at_builtin;refine wpList_append_rowZ rfl (.tmp 5) (.tmp 8) rfl HI2.o underlying36 rfl ab ab (W.heap.size+1) v0 acc.length (rowG acc) rfl (gY ((Bl.refl _).alloc _) HO1.o) w1.heap.size cs rfl (aN w1 _) HCL.o HCO.o aE am ?_))
  intro v' w6 hown6 hg6 hat;have HF6:=aB ((HF1.o.bl ((Bl.refl _).alloc _)).own hg6 (fun j e=>by have:=(hlow.o j e).1;omega));have HS6:=aB ((HS1.o.bl ((Bl.refl _).alloc _)).keep (hg6.block _ am (fun e=>by have:=(hlow.o _ e.symm).1;omega)) (hg6.block _ am (fun e=>by have:=(hlow.o _ e.symm).1;omega)));have HTR6:=aB (show ∀q∈acc++[(x,cs)],Shp.lies gEx (apartG (W.heap.size+1) w6 v') w6 q.1 q.2 from fun q hq=>by rcases iX.1 hq with hq|hq;exact lies_own (lies_bl (HTR1.o q hq) ((Bl.refl _).alloc _)) hg6 cA;obtain rfl:=gQ.1 hq;exact lies_own (lies_bl HZ.o ((Bl.refl _).alloc _)) hg6 cA);obtain⟨gn,cn,rfl⟩:=nG hown6;have HOW6:=aB (show w6.ownsRow (W.heap.size+1) 38 8 (.slice (some ⟨gn,0,none⟩) (acc.length+1) cn) (acc++[(x,cs)]).length (rowG (acc++[(x,cs)])) from by rw[bD,show rowG (acc++[(x,cs)])=rowG acc++cs from by simp[rowG]];exact hown6);have hz6:=HF6.o.size;have a0:=cK HF6.o.r;clear hown6 hg6 hat;cases ht:bH ts k1 [[44]] with
  |some k2=>
   have hk2:=kS HTK.o hlt1.2 ht;have HL6:=aB (HG.o.1 k2 ht hk2.1);have HT:=aB ht;clear ht;go_wp2_with fail;refine(jD HS6.o [[44]] HT.o _ 1 _ _ rfl rfl aa aa).mono ?_;rintro e w7 ⟨rfl,hg7,hs7⟩;have HG7:=aB hg7;have HS7:=aB hs7;clear hg7 hs7;go_wp2;go_roundw
   case rel=>exact⟨_,k2,acc++[(x,cs)],rfl,by rw[bD];simp;omega,HF6.o.next hbl HG7.o,HS7.o,pO HOW6.o HG7.o aE,aB (fun q hq=>lies_grown (HTR6.o q hq) HG7.o aE),by rw[kW];exact HL6.o⟩
   case measure=>have n1:=kY HS.o;have n2:=kY HS7.o;rw[n1,n2];omega
  |none=>
   have HE:=aB (HG.o.2 ht);have HT:=aB ht;clear ht;go_wp2_with fail;refine(kM HS6.o [[44]] HT.o _ 1 _ _ rfl rfl aa aa).mono ?_;rintro e w7 ⟨rfl,hg7,hs7⟩;have HG7:=aB hg7;have HS7:=aB hs7;clear hg7 hs7;go_wp2;go_ret;have hO7:=pO HOW6.o HG7.o aE;have hrows:=rows_ownG (F:=gEx) (l:=acc++[(x,cs)]) (p:=fun b=>W.heap.size<=b) hO7 (fun b hb _ _=>by omega) (fun q hq=>Shp.keep gEx (aH _) (fun b _ hb=>by have:=hb.1;omega) (fun _ _ _=>rfl) (lies_grown (HTR6.o q hq) HG7.o aE));rw[kW] at hrows;exact d2o.yes (HF6.o.next hbl HG7.o).grown HS7.o HE.o hrows
end
end Go.Proofs.YtohlomdapelgeaaGreatDoor
