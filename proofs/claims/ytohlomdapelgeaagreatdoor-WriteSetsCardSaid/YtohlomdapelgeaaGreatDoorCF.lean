/- Texts MT2 MN X4 MZ ZB. -/
import Derived.Test.YtohlomdapelgeaaGreatDoorCC
import Derived.Test.YtohlomdapelgeaaGreatDoorCA
import Derived.Test.YtohlomdapelgeaaGreatDoorCS
import Derived.Test.YtohlomdapelgeaaGreatDoorCD
import Derived.Lib.Join
import Derived.Test.YtohlomdapelgeaaGreatDoorCE
namespace Go.Proofs.YtohlomdapelgeaaGreatDoor
open _root_.Go.Proofs.Tryz
open Go.RowKit
open Go.RowKit Go.Shelf
open _root_.Go.Act renaming put->aK
open _root_.Go.Addr renaming add->dY
open _root_.And renaming intro->bT
open _root_.Array renaming getElem?_eq_some_iff->aC,replicate_succ->eX,replicate_zero->eU
open _root_.Go.RowKit.Below renaming grown->iL,refl->bS
open _root_.Bool renaming and_eq_true->aQ,false_and->pK,or_eq_true->jO,true_and->rC
open _root_.Go.Ending renaming returned->bQ
open _root_.Go.Lib renaming cell_of_heap->aG,frozen_of_heap->aJ,hasPrefix->aS,hid->aB,trimPrefix->bV
open _root_.List renaming all_eq_true->jA,append_assoc->iK,append_toArray->fD,cons_append->bE,drop_length->dO,eq_nil_of_length_eq_zero->lM,ext_getElem->kX,getD_cons_zero->nR,getElem?_eq_getElem->aP,getElem?_eq_some_iff->aO,getElem?_map->iJ,getElem_cons_zero->jB,getElem_mem->dS,isEmpty_iff->iZ,length_append->bD,length_cons->aX,length_map->mD,length_nil->bL,length_pos_iff->qH,length_singleton->dB,map_append->kW,map_cons->kP,map_nil->qZ,mem_append->iX,mem_cons->dD,mem_nil_iff->fV,mem_of_getElem?->dJ,mem_singleton->gQ,nil_append->cB,push_toArray->gH,range->iU,setIfInBounds_toArray->aA,set_cons_succ->aF,set_cons_zero->aD,size_toArray->gG,take_add_one->dN,take_append_drop->gF,take_of_length_le->jS
open _root_.Nat renaming le_refl->aH,le_trans->jH,lt_of_lt_of_le->gK,zero_add->gD,zero_le->dL
open NoPanic renaming normal->bF
open _root_.Go.Oper renaming semAt_some->nC
open _root_.Option renaming bind_eq_some_iff->dG,getD_some->oQ,map_eq_some_iff->aT
open _root_.Go.World renaming block_lt_of_cell?->bB,ownsRow_nil->d2l
set_option maxRecDepth 100000
set_option maxHeartbeats 16000000
section
theorem b2l(s x:List UInt8)(r:List (List UInt8)):jR s (x::r)=x++Lib.joinTail s r:=by
 induction r generalizing x with
 |nil=>simp[jR,Lib.joinTail]
 |cons y r ih=>simp only[jR,ih,Lib.joinTail,kP,List.flatten_cons,iK]
theorem a5y(s:List UInt8)(l:List (List UInt8)):jR s l=Lib.join l s:=by
 cases l with
 |nil=>rfl
 |cons x r=>rw[b2l,Lib.join_cons]
theorem uJ{s x:List UInt8}:∀{l:List (List UInt8)},x∈l->x.length<=(jR s l).length
 |[],h=>by cases h
 |[y],h=>by simp at h;subst h;simp[jR]
 |y::z::r,h=>by
  simp only[jR,bD];rcases dD.1 h with rfl|h
  ·omega
  ·have:=uJ (s:=s) h;omega
theorem vF{x:Ex}(h:eH x=true):a9r x=true:=by
 cases x with
 |mk k v t n o args=>
  simp only[eH,aQ] at h;exact h.1
theorem a1l{x y:Ex}(h:eH x=true)(hy:y∈x.args):eH y=true:=by
 cases x with
 |mk k v t n o args=>
  simp only[eH,aQ,vY,jA] at h;exact h.2 y hy
theorem c1e{α:Type}{l:List α}(h:l.length=1):∃a,l=[a]:=by
 match l,h with
 |[a],_=>exact⟨a,rfl⟩
theorem c1d{α:Type}{l:List α}(h:l.length=2):∃a b,l=[a,b]:=by
 match l,h with
 |[a,b],_=>exact⟨a,b,rfl⟩
theorem a7e{v:Int×Int×List UInt8}{t n:List UInt8}{o:Int}{args:List Ex}(h:dV 3 v t n o args=true):1<=o/\o<=20/\args.length=fJ o/\v=(0,0,[])/\t=[]/\n=[]:=by
 unfold dV at h;simp only[show ¬(3:Int)=1 by decide,show ¬(3:Int)=2 by decide,if_true,if_false,aQ,beq_iff_eq,decide_eq_true_eq] at h;exact⟨h.1.2.1,h.1.2.2,h.2,h.1.1.1.1,h.1.1.1.2,h.1.1.2⟩
theorem wF{o:Int}(h1:1<=o)(h2:o<=14):fJ o=2:=by unfold fJ;rw[if_pos ⟨h1,h2⟩]
theorem tV{o:Int}(h1:15<=o)(h2:o<=20):fJ o=1:=by unfold fJ;rw[if_neg aE,if_pos ⟨h1,h2⟩]
theorem xC{k:Int}{v:Int×Int×List UInt8}{t n:List UInt8}{o:Int}{args:List Ex}(h:dV k v t n o args=true):k=1\/k=2\/k=3\/k=4\/k=5:=by
 unfold dV at h
 repeat' split at h
 all_goals first |omega|cases h
theorem a1e{x y:Ex}(hc:eH x=true)(hy:y∈x.args):(eY y).length<=(eY x).length:=by
 have hr:=vF hc;obtain⟨k,v,t,n,o,args⟩:=x
 replace hr:dV k v t n o args=true:=hr
 replace hy:y∈args:=hy
 have hm:eY y∈args.map eY:=List.mem_map_of_mem hy;simp only[eY,vG];rcases xC hr with rfl|rfl|rfl|rfl|rfl
 ·unfold dV at hr;rw[if_pos rfl] at hr;simp only[aQ,iZ] at hr;rw[hr.1.1.2] at hy;cases hy
 ·unfold dV at hr;rw[if_neg ae,if_pos rfl] at hr;simp only[aQ,iZ] at hr;rw[hr.1.1.2] at hy;cases hy
 ·obtain⟨h1,h2,h3,-⟩:=a7e hr;unfold uB;rw[if_neg ae,if_neg ae,if_neg ae,if_neg ae];by_cases h14:o<=14
  ·rw[wF h1 h14] at h3;rw[wF h1 h14,if_pos rfl];obtain⟨a,b,rfl⟩:=c1d h3;simp only[kP,qZ,nR,List.getD_cons_succ,mR,jR,bD];simp only[dD,fV,or_false] at hy;rcases hy with rfl|rfl<;>omega
  ·rw[tV aE h2] at h3;rw[tV aE h2,if_neg ae];obtain⟨a,rfl⟩:=c1e h3;simp only[dD,fV,or_false] at hy;subst hy;simp only[kP,qZ,nR];split
   ·simp only[qN,jR,bD];omega
   split
   ·simp only[mR,jR,bD];omega
   ·simp only[mR,jR,bD];omega
 ·unfold uB;rw[if_neg ae,if_neg ae,if_pos rfl];have:=uJ (s:=[44,32]) hm;simp only[qN,bD];omega
 ·unfold uB;rw[if_neg ae,if_neg ae,if_neg ae,if_pos rfl];have hne:¬args.map eY=[]:=fun e=>(by rw[e] at hm;cases hm);rw[if_neg hne];have:=uJ (s:=[44,32]) hm;simp only[qN,bD];omega
end
section
end
section
def sW(W:World)(sv:Value)(l:List (List UInt8)):Prop:=∃b cap,sv= .slice (some ⟨b,0,none⟩) l.length cap/\l.length<=cap/\b<W.heap.size/\∀j (h:j<l.length),W.cell? ⟨b,j,none⟩=some (S l[j])
theorem sW.bl{A B:World}{sv:Value}{l:List (List UInt8)}(h:sW A sv l)(hb:Bl A B):sW B sv l:=by
 obtain⟨b,cap,e,hc,hl,hcs⟩:=h;exact⟨b,cap,e,hc,gK hl hb.size,fun j hj=>hb.cell (hcs j hj)⟩
theorem wO(W:World)(l:List (List UInt8))(cs:Array Value)(t:TypeId)(hcs:cs=(l.map fun s=>S s).toArray)(n b:Nat)(hn:n=l.length)(hw:b=W.heap.size):sW (W.alloc (.cells cs t)) (.slice (some ⟨b,0,none⟩) n n) l:=by
 subst hcs;subst hn;subst hw;refine⟨_,_,rfl,aH _,by simp,fun j hj=>?_⟩;rw[aG (aN W _)];simp[hj]
theorem b0j{W:World}{sv:Value}{l:List (List UInt8)}(h:sW W sv l)(sep:List UInt8)(hm:l.length<=1000000)(hlen:(jR sep l).length<=100000000):
  eg 78 #[sv,S sep] W fun e w'=>e= .returned (S (jR sep l))/\Bl W w':=by
 obtain⟨b,cap,rfl,hcap,hb,hc⟩:=h;have e1:(l.map fun s=>(⟨s.toArray⟩:ByteArray)).map (·.data.toList)=l:=(by simp[Function.comp_def]);have hj:=Tryz.strings_Join b 0 cap (l.map fun s=>⟨s.toArray⟩) ⟨sep.toArray⟩ W (fun j x hx=>by
  rw[iJ] at hx;obtain⟨s,hs,rfl⟩:=aT.1 hx;obtain⟨hl,e⟩:=aO.1 hs;rw[gD,hc j hl,e]) hb ak (by simpa using hcap) (by
  rw[e1];show(Lib.join l sep).length<=_;rw[<-a5y];omega)
 rw[e1,mD] at hj;refine hj.mono ?_;rintro e w' ⟨rfl,hw⟩;refine⟨?_,hw⟩;show bQ (.string ⟨(Lib.join l sep).toArray⟩)=_;rw[<-a5y]
theorem qW{W:World}{sv:Value}{l:List (List UInt8)}(h:sW W sv l)(f:List UInt8)(hm:l.length<=1000000)(hlen:(qN f l).length<=100000000):
  eg 275 #[S f,sv] W fun e w'=>e= .returned (S (qN f l))/\Bl W w':=by
 have hl2:f.length+1+(jR [44,32] l).length+1<=100000000:=(by simp only[qN,bD,dB] at hlen;omega);have HJ:=aB (b0j h [44,32] hm aE);obtain⟨b,cap,rfl,-⟩:=h;have HE:Hid (qN f l=f++[40]++jR [44,32] l++[41]):=rfl;generalize jR [44,32] l=jl at *;clear hlen;go_enter func275,ntmps275;go_wp2_with fail;refine HJ.o.mono ?_;rintro e w1 ⟨rfl,hb⟩;go_wp2;go_ret;refine⟨?_,hb⟩;rw[HE.o];rfl
theorem vW{W:World}{sv:Value}{l:List (List UInt8)}(h:sW W sv l)(hm:l.length<=1000000)(hlen:(mR l).length<=100000000):
  eg 278 #[sv] W fun e w'=>e= .returned (S (mR l))/\Bl W w':=by
 have hl2:1+(jR [32] l).length+1<=100000000:=(by simp only[mR,bD,dB] at hlen;omega);have HJ:=aB (b0j h [32] hm aE);obtain⟨b,cap,rfl,-⟩:=h;have HE:Hid (mR l=[40]++jR [32] l++[41]):=rfl;generalize jR [32] l=jl at *;clear hlen;go_enter func278,ntmps278;go_wp2_with fail;refine HJ.o.mono ?_;rintro e w1 ⟨rfl,hb⟩;go_wp2;go_ret;refine⟨?_,hb⟩;rw[HE.o];rfl
theorem b8s{t n:List UInt8}(ht:t=[]\/mO t=true):bV (t++[46]++n) [46]=if t=[] then n else t++[46]++n:=by
 by_cases h0:t=[]
 ·subst h0;rw[if_pos rfl];simp[bV,aS]
 ·rw[if_neg h0];obtain⟨⟨c,r,rfl,hl,-,-⟩,-⟩:=rO (ht.resolve_left h0);have hc:c≠46:=by
   rintro rfl;exact absurd hl ae
  simp[bV,aS,Ne.symm hc]
theorem b4k(k n o:Int)(l t m:List UInt8)(v:Int)(a:Option Addr)(c d:Nat)(a':Option Addr)(c' d':Nat)(h:chk v n l=0)(h0: -9223372036854775808<=n)(h1:n<=9223372036854775807)(w:World)(hG:nD w):
  eg 271 #[EV k (v,n,l) t m o (.slice a c d),.slice a' c' d'] w fun e w'=>e= .returned (S (lit v n l))/\Bl w w':=by
 have HG:=aB hG;have H:=aB h;clear hG h;go_enter func271,ntmps271;go_wp2_with fail
 (with_reducible refine(b3i v n l H.o h0 h1 _ (HG.o.bl ((Bl.refl w).alloc _))).mono ?_)
 rintro e w1 ⟨rfl,hb⟩;go_wp2;go_ret;exact⟨rfl,((Bl.refl w).alloc _).call hb⟩
theorem b4j(k n o:Int)(l t m:List UInt8)(v:Int)(a:Option Addr)(c d:Nat)(a':Option Addr)(c' d':Nat)(ht:t=[]\/mO t=true)(hlt:t.length<=10000)(hlm:m.length<=10000)(w:World):
  eg 273 #[EV k (v,n,l) t m o (.slice a c d),.slice a' c' d'] w fun e w'=>e= .returned (S (if t=[] then m else t++[46]++m))/\Bl w w':=by
 obtain⟨u,hu⟩:∃u,u=if t=[] then m else t++[46]++m:=⟨_,rfl⟩
 have H:=aB ((b8s (n:=m) ht).trans hu.symm);rw[<-hu];clear ht hu;have e1:((⟨t.toArray⟩:ByteArray)++⟨#[46]⟩++⟨m.toArray⟩).data.toList=t++[46]++m:=aa;have HJ:Hid (∀w,eg 119 #[.string ((⟨t.toArray⟩:ByteArray)++⟨#[46]⟩++⟨m.toArray⟩),.string ⟨#[46]⟩] w fun e w'=>e= .returned (S u)/\w'=w):=fun w=>by
  refine(Tryz.strings_TrimPrefix _ _ _).mono ?_;rintro e w1 ⟨rfl,rfl⟩;rw[e1];exact⟨congrArg (fun l:List UInt8=>bQ (S l)) H.o,rfl⟩
 clear e1 H;go_enter func273,ntmps273;go_wp2_with fail;refine(HJ.o _).mono ?_;rintro e w1 ⟨rfl,rfl⟩;go_wp2;go_ret;exact⟨rfl,(Bl.refl w).alloc _⟩
theorem b4i(k n o:Int)(l t m:List UInt8)(v:Int)(a:Option Addr)(c d:Nat){sv:Value}{ls:List (List UInt8)}{w:World}(h:sW w sv ls)(hm:ls.length<=1000000)(hlen:(qN bZ ls).length<=100000000):
  eg 274 #[EV k (v,n,l) t m o (.slice a c d),sv] w fun e w'=>e= .returned (S (qN bZ ls))/\Bl w w':=by
 have HJ:=aB (qW (h.bl ((Bl.refl w).alloc (.cells #[.int .i64 k,.int .i64 v,.int .i64 n,S l,S t,S m,.int .i64 o,.slice a c d] 38))) bZ hm hlen);obtain⟨b,cap,rfl,-⟩:=h;go_enter func274,ntmps274;go_wp2_with fail;refine HJ.o.mono ?_;rintro e w1 ⟨rfl,hb⟩;go_wp2;go_ret;exact⟨rfl,((Bl.refl w).alloc _).call hb⟩
theorem b1g(k n o:Int)(l t m:List UInt8)(v:Int)(a:Option Addr)(c d:Nat){sv:Value}{ls:List (List UInt8)}{w:World}(h:sW w sv ls)(hne:ls≠[])(hm:ls.length<=1000000)(hlen:(qN m ls).length<=100000000):
  eg 276 #[EV k (v,n,l) t m o (.slice a c d),sv] w fun e w'=>e= .returned (S (qN m ls))/\Bl w w':=by
 have HJ:=aB (qW (h.bl ((Bl.refl w).alloc (.cells #[.int .i64 k,.int .i64 v,.int .i64 n,S l,S t,S m,.int .i64 o,.slice a c d] 38))) m hm hlen);have hn0:((ls.length:Int)==0)=false:=by
  have:ls.length≠0:=fun e=>hne (lM e);simp;omega
 obtain⟨b,cap,rfl,-⟩:=h;clear hne;go_enter func276,ntmps276;go_wp2_with fail;refine HJ.o.mono ?_;rintro e w1 ⟨rfl,hb⟩;go_wp2;go_ret;exact⟨rfl,((Bl.refl w).alloc _).call hb⟩
theorem a1r(k n o:Int)(l t m:List UInt8)(v:Int)(a a':Option Addr)(c d d':Nat)(hlm:m.length<=10000)(w:World):
  eg 276 #[EV k (v,n,l) t m o (.slice a c d),.slice a' 0 d'] w fun e w'=>e= .returned (S (qN m [[42]]))/\Bl w w':=by
 go_enter func276,ntmps276;go_wp2_with fail;refine(qW (wO _ [[42]] _ _ rfl _ _ rfl aa) m aa (by simp[qN,jR];omega)).mono ?_;rintro e w1 ⟨rfl,hb⟩;go_wp2;go_ret;exact⟨rfl,(((Bl.refl w).alloc _).alloc _).call hb⟩
end
section
theorem b4h(k n o:Int)(l t m:List UInt8)(v:Int)(a:Option Addr)(c d:Nat){sv:Value}{x y:List UInt8}{w:World}(h:sW w sv [x,y])(ho:1<=o/\o<=14)(hlen:(mR [x,bI o,y]).length<=100000000):
  eg 277 #[EV k (v,n,l) t m o (.slice a c d),sv] w fun e w'=>e= .returned (S (mR [x,bI o,y]))/\Bl w w':=by
 have H:=aB h;have HL:=aB hlen;obtain⟨b,cap,rfl,-,hbl,-⟩:=h;have ho1:1<=o/\o<=20:=aE;have hB0:=aB ((Bl.refl w).alloc (.cells #[.int .i64 k,.int .i64 v,.int .i64 n,S l,S t,S m,.int .i64 o,.slice a c d] 38));have hX:=aN w (.cells #[.int .i64 k,.int .i64 v,.int .i64 n,S l,S t,S m,.int .i64 o,.slice a c d] 38);clear hlen;go_enter func277,ntmps277;go_wp2_with fail
 (with_reducible refine(uR o ho1 _).mono ?_)
 rintro e w1 ⟨rfl,hb1⟩;have hB1:=aB (hB0.o.call hb1);have hX1:=(hb1.block _ aa).trans hX;have hlt1:=(aC.1 hX1).1;clear hX hb1;obtain⟨⟨e0,e1,e2,e3,e4,e5,e6,e7⟩,-⟩:=eight hX1;obtain⟨mm,hmm,hb2⟩:∃mm:Int,Hid ((fJ o:Int)=mm)/\(mm==2)=true:=⟨_,rfl,by rw[wF ho.1 ho.2];rfl⟩
 rw[hmm.o];go_wp2_with fail;have hI:=aN w1 (.cells #[S (bI o),.int .i64 mm,.int .i64 (vM o),.int .i64 (fU o)] 284);have i0:(w1.alloc (.cells #[S (bI o),.int .i64 mm,.int .i64 (vM o),.int .i64 (fU o)] 284)).cell? ⟨w1.heap.size,0,none⟩=some (S (bI o)):=(by rw[aG hI];rfl);have hB2:=aB (hB1.o.alloc (.cells #[S (bI o),.int .i64 mm,.int .i64 (vM o),.int .i64 (fU o)] 284));obtain⟨b',cap',eb,-,-,hc⟩:=(H.o.bl hB2.o)
 obtain⟨rfl,rfl⟩:b=b'/\cap=cap':=(by simpa using eb);have c0:=hc 0 aa;have c1:_=some (S y):=hc 1 aa;simp only[jB] at c0;clear hc eb hI e0 e1 e2 e3 e4 e5 e6 e7 hX1;generalize w1.alloc (.cells #[S (bI o),.int .i64 mm,.int .i64 (vM o),.int .i64 (fU o)] 284)=w2 at *
 go_still_tail 8,af
 go_wp2_with fail;refine(vW ((wO w2 [x,bI o,y] _ _ rfl _ _ rfl rfl).bl ((Bl.refl _).drew)) aa HL.o).mono ?_;rintro e w3 ⟨rfl,hb⟩;go_wp2;go_ret;exact⟨rfl,((hB2.o.alloc _).drew).call hb⟩
theorem b1f(k n o:Int)(l t m:List UInt8)(v:Int)(a:Option Addr)(c d:Nat){sv:Value}{x:List UInt8}{w:World}(h:sW w sv [x])(ho:19<=o/\o<=20)(hlen:(qN (bI o) [x]).length<=100000000):
  eg 277 #[EV k (v,n,l) t m o (.slice a c d),sv] w fun e w'=>e= .returned (S (qN (bI o) [x]))/\Bl w w':=by
 have H:=aB h;have HL:=aB hlen;obtain⟨b,cap,rfl,-,hbl,-⟩:=h;have ho1:1<=o/\o<=20:=aE;have hB0:=aB ((Bl.refl w).alloc (.cells #[.int .i64 k,.int .i64 v,.int .i64 n,S l,S t,S m,.int .i64 o,.slice a c d] 38));have hX:=aN w (.cells #[.int .i64 k,.int .i64 v,.int .i64 n,S l,S t,S m,.int .i64 o,.slice a c d] 38);clear hlen;go_enter func277,ntmps277;go_wp2_with fail
 (with_reducible refine(uR o ho1 _).mono ?_)
 rintro e w1 ⟨rfl,hb1⟩;have hB1:=aB (hB0.o.call hb1);have hX1:=(hb1.block _ aa).trans hX;have hlt1:=(aC.1 hX1).1;clear hX hb1;obtain⟨⟨e0,e1,e2,e3,e4,e5,e6,e7⟩,-⟩:=eight hX1;have hmn:fJ o=1:=tV aE ho.2;rw[hmn];have HJ:=aB (qW ((H.o.bl hB1.o).bl ((Bl.refl w1).alloc (.cells #[S (bI o),.int .i64 ((1:Nat):Int),.int .i64 (vM o),.int .i64 (fU o)] 284))) (bI o) aa HL.o);have ho':o=19\/o=20:=aE;rcases ho' with rfl|rfl
 all_goals
  go_wp2_with fail;refine HJ.o.mono ?_;rintro e w2 ⟨rfl,hb⟩;go_wp2;go_ret;exact⟨rfl,(hB1.o.alloc _).call hb⟩
theorem b8w(k n o:Int)(l t m:List UInt8)(v:Int)(a:Option Addr)(c d:Nat){sv:Value}{x:List UInt8}{w:World}(h:sW w sv [x])(ho:17<=o/\o<=18)(hlen:(mR [x,bI o]).length<=100000000):
  eg 277 #[EV k (v,n,l) t m o (.slice a c d),sv] w fun e w'=>e= .returned (S (mR [x,bI o]))/\Bl w w':=by
 have H:=aB h;have HL:=aB hlen;obtain⟨b,cap,rfl,-,hbl,-⟩:=h;have ho1:1<=o/\o<=20:=aE;have hB0:=aB ((Bl.refl w).alloc (.cells #[.int .i64 k,.int .i64 v,.int .i64 n,S l,S t,S m,.int .i64 o,.slice a c d] 38));have hX:=aN w (.cells #[.int .i64 k,.int .i64 v,.int .i64 n,S l,S t,S m,.int .i64 o,.slice a c d] 38);clear hlen;go_enter func277,ntmps277;go_wp2_with fail
 (with_reducible refine(uR o ho1 _).mono ?_)
 rintro e w1 ⟨rfl,hb1⟩;have hB1:=aB (hB0.o.call hb1);have hX1:=(hb1.block _ aa).trans hX;have hlt1:=(aC.1 hX1).1;clear hX hb1;obtain⟨⟨e0,e1,e2,e3,e4,e5,e6,e7⟩,-⟩:=eight hX1;obtain⟨mm,hmm,hb2⟩:∃mm:Int,Hid ((fJ o:Int)=mm)/\(mm==2)=false:=⟨_,rfl,by rw[tV aE aE];rfl⟩
 rw[hmm.o];have b19:(o==19)=false:=ak;have b20:(o==20)=false:=ak;have ho':(o==17)=true\/(o==17)=false/\(o==18)=true:=by
  by_cases h:o=17
  ·left;simpa using h
  ·right;exact⟨by simpa using h,by simp;omega⟩
 clear ho ho1;rcases ho' with b17|⟨b17,b18⟩
 all_goals
  go_wp2_with fail;have hI:=aN w1 (.cells #[S (bI o),.int .i64 mm,.int .i64 (vM o),.int .i64 (fU o)] 284);have i0:(w1.alloc (.cells #[S (bI o),.int .i64 mm,.int .i64 (vM o),.int .i64 (fU o)] 284)).cell? ⟨w1.heap.size,0,none⟩=some (S (bI o)):=(by rw[aG hI];rfl);have hB2:=aB (hB1.o.alloc (.cells #[S (bI o),.int .i64 mm,.int .i64 (vM o),.int .i64 (fU o)] 284));obtain⟨b',cap',eb,-,-,hc⟩:=(H.o.bl hB2.o)
  obtain⟨rfl,rfl⟩:b=b'/\cap=cap':=(by simpa using eb);have c0:=hc 0 aa
  skip
  simp only[jB] at c0;clear hc eb hI e0 e1 e2 e3 e4 e5 e6 e7 hX1;generalize w1.alloc (.cells #[S (bI o),.int .i64 mm,.int .i64 (vM o),.int .i64 (fU o)] 284)=w2 at *
  go_still_tail 5,af
  go_wp2_with fail;refine(vW ((wO w2 [x,bI o] _ _ rfl _ _ rfl rfl).bl ((Bl.refl _).drew)) aa HL.o).mono ?_;rintro e w3 ⟨rfl,hb⟩;go_wp2;go_ret;exact⟨rfl,((hB2.o.alloc _).drew).call hb⟩
theorem b8v(k n o:Int)(l t m:List UInt8)(v:Int)(a:Option Addr)(c d:Nat){sv:Value}{x:List UInt8}{w:World}(h:sW w sv [x])(ho:15<=o/\o<=16)(hlen:(mR [bI o,x]).length<=100000000):
  eg 277 #[EV k (v,n,l) t m o (.slice a c d),sv] w fun e w'=>e= .returned (S (mR [bI o,x]))/\Bl w w':=by
 have H:=aB h;have HL:=aB hlen;obtain⟨b,cap,rfl,-,hbl,-⟩:=h;have ho1:1<=o/\o<=20:=aE;have hB0:=aB ((Bl.refl w).alloc (.cells #[.int .i64 k,.int .i64 v,.int .i64 n,S l,S t,S m,.int .i64 o,.slice a c d] 38));have hX:=aN w (.cells #[.int .i64 k,.int .i64 v,.int .i64 n,S l,S t,S m,.int .i64 o,.slice a c d] 38);clear hlen;go_enter func277,ntmps277;go_wp2_with fail
 (with_reducible refine(uR o ho1 _).mono ?_)
 rintro e w1 ⟨rfl,hb1⟩;have hB1:=aB (hB0.o.call hb1);have hX1:=(hb1.block _ aa).trans hX;have hlt1:=(aC.1 hX1).1;clear hX hb1;obtain⟨⟨e0,e1,e2,e3,e4,e5,e6,e7⟩,-⟩:=eight hX1;obtain⟨mm,hmm,hb2⟩:∃mm:Int,Hid ((fJ o:Int)=mm)/\(mm==2)=false:=⟨_,rfl,by rw[tV aE aE];rfl⟩
 rw[hmm.o];have b19:(o==19)=false:=ak;have b20:(o==20)=false:=ak;have b17:(o==17)=false:=ak;have b18:(o==18)=false:=ak;clear ho ho1;go_wp2_with fail;have hI:=aN w1 (.cells #[S (bI o),.int .i64 mm,.int .i64 (vM o),.int .i64 (fU o)] 284);have i0:(w1.alloc (.cells #[S (bI o),.int .i64 mm,.int .i64 (vM o),.int .i64 (fU o)] 284)).cell? ⟨w1.heap.size,0,none⟩=some (S (bI o)):=(by rw[aG hI];rfl);have hB2:=aB (hB1.o.alloc (.cells #[S (bI o),.int .i64 mm,.int .i64 (vM o),.int .i64 (fU o)] 284));obtain⟨b',cap',eb,-,-,hc⟩:=(H.o.bl hB2.o)
 obtain⟨rfl,rfl⟩:b=b'/\cap=cap':=(by simpa using eb);have c0:=hc 0 aa
 skip
 simp only[jB] at c0;clear hc eb hI e0 e1 e2 e3 e4 e5 e6 e7 hX1;generalize w1.alloc (.cells #[S (bI o),.int .i64 mm,.int .i64 (vM o),.int .i64 (fU o)] 284)=w2 at *
 go_still_tail 5,af
 go_wp2_with fail;refine(vW ((wO w2 [bI o,x] _ _ rfl _ _ rfl rfl).bl ((Bl.refl _).drew)) aa HL.o).mono ?_;rintro e w3 ⟨rfl,hb⟩;go_wp2;go_ret;exact⟨rfl,((hB2.o.alloc _).drew).call hb⟩
end
section
abbrev c7o:Array MapEntry:= #[lE 1 271 0,lE 2 273 1,lE 4 274 2,lE 5 276 3,lE 3 277 4]
def b1e(k:Int):FuncId:=if k=1 then 271 else if k=2 then 273 else if k=4 then 274 else if k=5 then 276 else 277
theorem c9n(w:World):(Instr.mapUpdate 260 (.map (some w.heap.size)) (.int .i64 1) (.func (.func 271) #[] #[])).run prog (w.alloc (.map #[] 0))= .ok () (w.alloc (.map #[lE 1 271 0] 1)):=
 eQ underlying260 underlying31 w #[] 0 1 _ rfl
theorem c9m(w:World):(Instr.mapUpdate 260 (.map (some w.heap.size)) (.int .i64 2) (.func (.func 273) #[] #[])).run prog (w.alloc (.map #[lE 1 271 0] 1))= .ok () (w.alloc (.map #[lE 1 271 0,lE 2 273 1] 2)):=
 eQ underlying260 underlying31 w #[lE 1 271 0] 1 2 _ rfl
theorem c9l(w:World):(Instr.mapUpdate 260 (.map (some w.heap.size)) (.int .i64 4) (.func (.func 274) #[] #[])).run prog (w.alloc (.map #[lE 1 271 0,lE 2 273 1] 2))= .ok () (w.alloc (.map #[lE 1 271 0,lE 2 273 1,lE 4 274 2] 3)):=
 eQ underlying260 underlying31 w #[lE 1 271 0,lE 2 273 1] 2 4 _ rfl
theorem c9k(w:World):(Instr.mapUpdate 260 (.map (some w.heap.size)) (.int .i64 5) (.func (.func 276) #[] #[])).run prog (w.alloc (.map #[lE 1 271 0,lE 2 273 1,lE 4 274 2] 3))= .ok () (w.alloc (.map #[lE 1 271 0,lE 2 273 1,lE 4 274 2,lE 5 276 3] 4)):=
 eQ underlying260 underlying31 w #[lE 1 271 0,lE 2 273 1,lE 4 274 2] 3 5 _ rfl
theorem c9j(w:World):(Instr.mapUpdate 260 (.map (some w.heap.size)) (.int .i64 3) (.func (.func 277) #[] #[])).run prog (w.alloc (.map #[lE 1 271 0,lE 2 273 1,lE 4 274 2,lE 5 276 3] 4))= .ok () (w.alloc (.map c7o 5)):=
 eQ underlying260 underlying31 w #[lE 1 271 0,lE 2 273 1,lE 4 274 2,lE 5 276 3] 4 3 _ rfl
theorem b8u(w:World):eg 226 #[] w fun e w'=>e= .returned (.map (some w.heap.size))/\w'=w.alloc (.map c7o 5):=by
 have hmm:= @run_makeMap prog;have h0:=c9n;have h1:=c9m;have h2:=c9l;have h3:=c9k;have h4:=c9j;go_enter func226,ntmps226;go_wp2;go_ret;exact⟨rfl,rfl⟩
theorem b6e{w:World}{r:Nat}(hb:w.heap[r]?=some (.map c7o 5)){k:Int}(hk:k=1\/k=2\/k=3\/k=4\/k=5):
  (Instr.lookup 260 (.map (some r)) (.int .i64 k) false).run prog w= .ok (.func (.func (b1e k)) #[] #[]) w:=by
 rcases hk with rfl|rfl|rfl|rfl|rfl
 ·exact eP underlying260 underlying31 hb (i:=0) rfl
 ·exact eP underlying260 underlying31 hb (i:=1) rfl
 ·exact eP underlying260 underlying31 hb (i:=4) rfl
 ·exact eP underlying260 underlying31 hb (i:=2) rfl
 ·exact eP underlying260 underlying31 hb (i:=3) rfl
theorem a6f(k:Int)(args:Array Value)(w:World):(callFunc (b1e k) args).run prog w= .ok (.enter (b1e k) args) w:=by
 unfold b1e;split
 ·simp[go_sem]
 split
 ·simp[go_sem]
 split
 ·simp[go_sem]
 split
 ·simp[go_sem]
 ·simp[go_sem]
theorem a6x{s:List UInt8}(h:mO s=true):s.length<=10000:=by
 obtain⟨⟨c,r,-,-,-,hl⟩,-⟩:=rO h;omega
theorem c1k{s:List UInt8}(h:gP.contains s=true):s.length<=10000:=by
 have:s=gX\/s=c1m\/s=c1n\/s=c1o:=(by simpa[gP] using h);rcases this with rfl|rfl|rfl|rfl<;>decide
theorem b2s{k v1 v2 o:Int}{v3 t n:List UInt8}{args:List Ex}(hr:dV k (v1,v2,v3) t n o args=true)(hi:I64 v2){a:Option Addr}{c:Nat}{sv:Value}{ls:List (List UInt8)}(hls:ls.length=args.length)(hfew:ls.length<=1000000)(hlen:(uB k (v1,v2,v3) t n o ls).length<=100000000)(w:World)(hG:nD w)
  (hS:(ls=[]/\∃a' d',sv= .slice a' 0 d')\/sW w sv ls):
  eg (b1e k) #[EV k (v1,v2,v3) t n o (.slice a args.length c),sv] w fun e w'=>e= .returned (S (uB k (v1,v2,v3) t n o ls))/\Bl w w':=by
 have hsv:∃a' m' d',sv= .slice a' m' d':=by
  rcases hS with⟨-,a',d',e⟩|⟨b,cap,e,-⟩
  ·exact⟨_,_,_,e⟩
  ·exact⟨_,_,_,e⟩
 have hS':ls≠[]->sW w sv ls:=fun h=>by
  rcases hS with⟨e,-⟩|h2
  ·exact absurd e h
  ·exact h2
 unfold dV at hr;rcases xC (by unfold dV;exact hr) with rfl|rfl|rfl|rfl|rfl
 ·rw[if_pos rfl] at hr;simp only[aQ,beq_iff_eq] at hr;obtain⟨a',m',d',rfl⟩:=hsv;exact b4k 1 v2 o v3 t n v1 a args.length c a' m' d' hr.1.2 hi.1 hi.2 w hG
 ·rw[if_neg ae,if_pos rfl] at hr;simp only[aQ,jO,beq_iff_eq] at hr;obtain⟨a',m',d',rfl⟩:=hsv;exact b4j 2 v2 o v3 t n v1 a args.length c a' m' d' hr.2 (hr.2.elim (fun h=>by rw[h];simp) a6x) (a6x hr.1.2) w
 ·obtain⟨h1,h2,h3,-⟩:=a7e (v:=(v1,v2,v3)) (t:=t) (n:=n) (o:=o) (args:=args) (by unfold dV;exact hr);have e3:uB 3 (v1,v2,v3) t n o ls=if fJ o=2 then mR [ls.getD 0 [],bI o,ls.getD 1 []] else if o=19\/o=20 then qN (bI o) ls else if o=17\/o=18 then mR [ls.getD 0 [],bI o] else mR [bI o,ls.getD 0 []]:=by
   unfold uB;rw[if_neg ae,if_neg ae,if_neg ae,if_neg ae]
  rw[e3] at hlen⊢;by_cases h14:o<=14
  ·rw[wF h1 h14] at h3;rw[if_pos (wF h1 h14)] at hlen⊢;obtain⟨x,y,rfl⟩:=c1d (hls.trans h3);exact b4h 3 v2 o v3 t n v1 a args.length c (hS' aa) ⟨h1,h14⟩ hlen
  ·have hm1:=tV (o:=o) aE h2;rw[hm1] at h3;rw[if_neg (by rw[hm1];decide)] at hlen⊢;obtain⟨x,rfl⟩:=c1e (hls.trans h3);by_cases h19:o=19\/o=20
   ·rw[if_pos h19] at hlen⊢;exact b1f 3 v2 o v3 t n v1 a args.length c (hS' aa) aE hlen
   ·rw[if_neg h19] at hlen⊢;by_cases h17:o=17\/o=18
    ·rw[if_pos h17] at hlen⊢;exact b8w 3 v2 o v3 t n v1 a args.length c (hS' aa) aE hlen
    ·rw[if_neg h17] at hlen⊢;exact b8v 3 v2 o v3 t n v1 a args.length c (hS' aa) aE hlen
 ·have e4:uB 4 (v1,v2,v3) t n o ls=qN bZ ls:=rfl;rw[e4] at hlen⊢;have hne:ls≠[]:=by
   rintro rfl;rw[if_neg ae,if_neg ae,if_neg ae,if_pos rfl] at hr;cases args with
   |nil=>simp at hr
   |cons x r=>simp at hls
  exact b4i 4 v2 o v3 t n v1 a args.length c (hS' hne) hfew hlen
 ·rw[if_neg ae,if_neg ae,if_neg ae,if_neg ae,if_pos rfl] at hr;simp only[aQ] at hr;have hln:=c1k hr.1.2;have e5:uB 5 (v1,v2,v3) t n o ls=qN n (if ls=[] then[[42]] else ls):=rfl;rw[e5] at hlen⊢;by_cases h0:ls=[]
  ·subst h0;rw[if_pos rfl];rcases hS with⟨-,a',d',rfl⟩|⟨b,cap,rfl,-⟩
   ·exact a1r 5 v2 o v3 t n v1 a a' args.length c d' hln w
   ·exact a1r 5 v2 o v3 t n v1 a (some ⟨b,0,none⟩) args.length c cap hln w
  ·rw[if_neg h0] at hlen⊢;exact b1g 5 v2 o v3 t n v1 a args.length c (hS' h0) h0 hfew hlen
end
section
theorem zQ{parse:List UInt8->Option (Int×Int×List UInt8)}(N:Nat):∀(f:Nat) (s:List UInt8) (l:List Tok),a4s parse N f s=some l->∀x∈l,x.k≠4
 |0,_,_,h=>by cases h
 |f+1,s,l,h=>by
  unfold a4s at h;split at h
  ·injection h with h;subst h;intro x hx;cases hx
  ·obtain⟨y,h1,h2⟩:=dG.1 h;obtain⟨r,h3,h4⟩:=aT.1 h2;subst h4;intro x hx;rcases dD.1 hx with rfl|hx
   ·have:=(nN h1).2.2;show y.1≠4;omega
   ·exact zQ N f _ r h3 x hx
theorem b1h{s:List UInt8}{ts:List Tok}(h:jQ s=some ts):∀x∈ts,x.k≠4:=zQ _ _ _ ts h
theorem b7c(s:List UInt8)(hs:s.length<=9223372036854775807)(h:bY s≠0)(W:World)(hG:nD W):eg 260 #[S s] W fun e w'=>e= .returned (.bool (mO s))/\Bl W w':=by
 rw[a5t h];have hb0:(bY s==0)=false:=bb;have HA:=aB h;clear h;go_enter func260,ntmps260;go_wp2_with fail
 (with_reducible refine(a7d s hs HA.o _ hG).mono ?_)
 rintro e w1 ⟨rfl,hb1⟩;go_wp2_with fail
 (with_reducible refine(a9c (W:=w1) (p:=none) (by unfold xS;exact Or.inl rfl)).mono ?_)
 rintro e w2 ⟨rfl,hb2⟩;go_wp2;go_ret;exact⟨rfl,hb1.call hb2⟩
theorem b2t(s:List UInt8)(hs:s.length<=4000)(ts:List Tok)(h:jQ s=some ts)(W:World)(hG:nD W):eg 260 #[S s] W fun e w'=>e= .returned (.bool (mO s))/\Bl W w':=by
 have HT:=aB (a4t h);have HTS:=aB h;have HN:=aB (b0f hs h);have hfld:∀(y:Tok) (w:World),Sem.run prog (Instr.field 72 (TVt y) 0) w= .ok (.int .i64 y.k) w:=fun _ _=>rfl;clear h;go_enter func260,ntmps260;go_wp2_with fail
 (with_reducible refine(a4h s hs ts HTS.o _ hG).mono ?_)
 rintro e w1 ⟨bs,g,cap,rfl,hb1,hbs,hgs,hs1⟩;have HS1:=aB hs1;have HB1:=aB hb1;obtain⟨tl,htl⟩:∃tl,Hid (tl=ts++[eT s.length]):=⟨_,rfl⟩
 rw[<-htl.o] at HS1 HT;clear hs1 hb1;cases hn:mM tl 0 with
 |none=>
  have HF:=aB (show mO s=false from by
   rw[HN.o];rcases ts with _|⟨x,_|⟨y,r⟩⟩
   ·rfl
   ·have hx:tl[0]?=some x:=by rw[htl.o];rfl
    unfold mM at hn;rw[hx] at hn;simp only at hn;split at hn
    ·cases hn
    ·rename_i hi;show(fH x&&(x.t==s))=false;rw[show fH x=false by simpa using hi];rfl
   ·rfl)
  have HNN:=aB hn;clear hn;go_wp2_with fail
  (with_reducible refine(a8a HS1.o HNN.o).mono ?_)
  rintro e w2 ⟨rfl,hg2,hs2⟩;have HB2:=aB (show Bl W w2 from iL HB1.o hg2 HB1.o.size (fun j hj=>by injection hj with hj;subst hj;exact hbs));clear hg2 hs2;go_wp2;go_ret;exact⟨by rw[HF.o];rfl,HB2.o⟩
 |some q=>
  obtain⟨n,k1⟩:=q;have HNN:=aB hn;have hx:∃x r,ts=x::r/\fH x=true/\x.t=n/\k1=1:=by
   rcases ts with _|⟨x,r⟩
   ·have hx:tl[0]?=some (eT s.length):=by rw[htl.o];rfl
    unfold mM at hn;rw[hx] at hn;simp[fH,eT] at hn
   ·have hx:tl[0]?=some x:=by rw[htl.o];rfl
    unfold mM at hn;rw[hx] at hn;simp only at hn;split at hn
    ·rename_i hi;injection hn with hn;injection hn with h1 h2;refine⟨x,r,rfl,hi,h1,?_⟩;rw[<-h2,htl.o];unfold fT;rw[if_pos aa]
    ·cases hn
  obtain⟨x,r,hts,hix,hxt,hk1⟩:=hx;subst hk1;have hy:tl[1]?=some (tl[1]'(by rw[htl.o,hts];simp)):=aP _;have hyk:(tl[1]'(by rw[htl.o,hts];simp)).k=4↔r=[]:=by
   constructor
   ·intro h4;rcases r with _|⟨z,r⟩
    ·rfl
    ·subst hts;have e:tl=x::z::(r++[eT s.length]):=htl.o;subst e;exact absurd h4 (b1h HTS.o z aa)
   ·rintro rfl;subst hts;have e:tl=[x,eT s.length]:=htl.o;subst e;rfl
  generalize tl[1]'(by rw[htl.o,hts];simp)=y at hy hyk;have HY:=aB hy;have HRes:=aB (show mO s=((n==s)&&(y.k==4)) from by
   rw[HN.o,hts];rcases r with _|⟨z,r⟩
   ·show(fH x&&(x.t==s))=_;rw[hix,hxt,show(y.k==4)=true by simpa using hyk.2 rfl];simp
   ·show false=_;have:¬y.k=4:=fun h=>(by have:=hyk.1 h;cases this);rw[show(y.k==4)=false by simpa using this];simp)
  have hf:=hfld y;clear hn hts hix hxt hy hyk hfld;go_wp2_with fail
  (with_reducible refine(a3p HS1.o HNN.o).mono ?_)
  rintro e w2 ⟨rfl,hg2,hs2⟩;have HB2:=aB (show Bl W w2 from iL HB1.o hg2 HB1.o.size (fun j hj=>by injection hj with hj;subst hj;exact hbs));have HS2:=aB hs2;clear hg2 hs2;obtain⟨tk,tp,tt,ta,tb,tc⟩:=y;cases hns:(n==s)
  ·have HR2:=aB (HRes.o.trans (by rw[hns];try rfl));go_wp2;go_ret;exact⟨by rw[HR2.o];rfl,HB2.o⟩
  ·have HR2:=aB (show mO s=(tk==4) from HRes.o.trans (by rw[hns];try rfl));go_wp2_with fail
   (with_reducible refine(rH HS2.o HY.o).mono ?_)
   rintro e w3 ⟨rfl,hb3⟩;go_wp2;go_ret;exact⟨by rw[HR2.o];rfl,HB2.o.call hb3⟩
theorem a6g(s:List UInt8)(hs:s.length<=9223372036854775807)(W:World)(hG:nD W):eg 260 #[S s] W fun e w'=>e= .returned (.bool (mO s))/\Bl W w':=by
 by_cases h:bY s=0
 ·have hl:s.length<=4000:=by
   unfold bY at h;split at h
   ·cases h
   ·omega
  cases ht:jQ s with
  |none=>
   unfold bY at h;rw[if_neg aE,if_pos ht] at h;cases h
  |some ts=>exact b2t s hl ts ht W hG
 ·exact b7c s hs h W hG
end
section
theorem pQ{k v1 v2 o u1 u2 k2 o2:Int}{v3 t n u3 t2 n2:List UInt8}{a a2:Option Addr}{m c m2 c2:Nat}(hB:∀w,eg 258 #[EV k (v1,v2,v3) t n o (.slice a m c)] w fun e w'=>e= .returned (EV k2 (u1,u2,u3) t2 n2 o2 (.slice a2 m2 c2))/\Bl w w')
  (hne:¬(u1=v1/\u2=v2/\u3=v3/\t2=t/\n2=n/\o2=o/\m2=m)) (w:World):eg 216 #[EV k (v1,v2,v3) t n o (.slice a m c)] w fun e w'=>e= .returned (.bool false)/\Bl w w':=by
 have HB:=aB hB;clear hB;by_cases h1:u1=v1
 case neg=>
  clear hne;have hb:(u1==v1)=false:=cC;have hb':(u1 != v1)=true:=cC;clear h1;go_enter func216,ntmps216;go_wp2_with fail;refine(HB.o _).mono ?_;rintro e w1 ⟨rfl,hb1⟩;have hX1:=(hb1.block w.heap.size aa).trans (aN w _);obtain⟨⟨e0,e1,e2,e3,e4,e5,e6,e7⟩,-⟩:=eight hX1;have hlt:=(aC.1 hX1).1;go_wp2;go_ret;exact⟨rfl,(((Bl.refl w).alloc _).call hb1).alloc _⟩
 subst h1;by_cases h2:u2=v2
 case neg=>
  clear hne;have hb:(u2==v2)=false:=cH;have hb':(u2 != v2)=true:=cH;clear h2;go_enter func216,ntmps216;go_wp2_with fail;refine(HB.o _).mono ?_;rintro e w1 ⟨rfl,hb1⟩;have hX1:=(hb1.block w.heap.size aa).trans (aN w _);obtain⟨⟨e0,e1,e2,e3,e4,e5,e6,e7⟩,-⟩:=eight hX1;have hlt:=(aC.1 hX1).1;go_wp2;go_ret;exact⟨rfl,(((Bl.refl w).alloc _).call hb1).alloc _⟩
 subst h2;by_cases h3:u3=v3
 case neg=>
  clear hne;have hb:(u3==v3)=false:=ck;have hb':(u3 != v3)=true:=ck;clear h3;go_enter func216,ntmps216;go_wp2_with fail;refine(HB.o _).mono ?_;rintro e w1 ⟨rfl,hb1⟩;have hX1:=(hb1.block w.heap.size aa).trans (aN w _);obtain⟨⟨e0,e1,e2,e3,e4,e5,e6,e7⟩,-⟩:=eight hX1;have hlt:=(aC.1 hX1).1;go_wp2;go_ret;exact⟨rfl,(((Bl.refl w).alloc _).call hb1).alloc _⟩
 subst h3;by_cases h4:t2=t
 case neg=>
  clear hne;have hb:(t2==t)=false:=cm;have hb':(t2 != t)=true:=cm;clear h4;go_enter func216,ntmps216;go_wp2_with fail;refine(HB.o _).mono ?_;rintro e w1 ⟨rfl,hb1⟩;have hX1:=(hb1.block w.heap.size aa).trans (aN w _);obtain⟨⟨e0,e1,e2,e3,e4,e5,e6,e7⟩,-⟩:=eight hX1;have hlt:=(aC.1 hX1).1;go_wp2;go_ret;exact⟨rfl,(((Bl.refl w).alloc _).call hb1).alloc _⟩
 subst h4;by_cases h5:n2=n
 case neg=>
  clear hne;have hb:(n2==n)=false:=(by simpa using h5);have hb':(n2 != n)=true:=(by simpa using h5);clear h5;go_enter func216,ntmps216;go_wp2_with fail;refine(HB.o _).mono ?_;rintro e w1 ⟨rfl,hb1⟩;have hX1:=(hb1.block w.heap.size aa).trans (aN w _);obtain⟨⟨e0,e1,e2,e3,e4,e5,e6,e7⟩,-⟩:=eight hX1;have hlt:=(aC.1 hX1).1;go_wp2;go_ret;exact⟨rfl,(((Bl.refl w).alloc _).call hb1).alloc _⟩
 subst h5;by_cases h6:o2=o
 case neg=>
  clear hne;have hb:(o2==o)=false:=(by simpa using h6);have hb':(o2 != o)=true:=(by simpa using h6);clear h6;go_enter func216,ntmps216;go_wp2_with fail;refine(HB.o _).mono ?_;rintro e w1 ⟨rfl,hb1⟩;have hX1:=(hb1.block w.heap.size aa).trans (aN w _);obtain⟨⟨e0,e1,e2,e3,e4,e5,e6,e7⟩,-⟩:=eight hX1;have hlt:=(aC.1 hX1).1;go_wp2;go_ret;exact⟨rfl,(((Bl.refl w).alloc _).call hb1).alloc _⟩
 subst h6;have h7:¬(m2:Int)=(m:Int):=by
  intro h;exact hne ⟨rfl,rfl,rfl,rfl,rfl,rfl,by omega⟩
 clear hne;have hb:((m2:Int)==(m:Int))=false:=(by simpa using h7);have hb':((m2:Int) != (m:Int))=true:=(by simpa using h7);clear h7;go_enter func216,ntmps216;go_wp2_with fail;refine(HB.o _).mono ?_;rintro e w1 ⟨rfl,hb1⟩;have hX1:=(hb1.block w.heap.size aa).trans (aN w _);obtain⟨⟨e0,e1,e2,e3,e4,e5,e6,e7⟩,-⟩:=eight hX1;have hlt:=(aC.1 hX1).1;go_wp2;go_ret;exact⟨rfl,(((Bl.refl w).alloc _).call hb1).alloc _⟩
theorem c0j{v1 v2 o:Int}{v3 t n:List UInt8}{a a2:Option Addr}{m c c2:Nat}(hB:∀w,eg 258 #[EV 1 (v1,v2,v3) t n o (.slice a m c)] w fun e w'=>e= .returned (EV 1 (v1,v2,v3) t n o (.slice a2 m c2))/\Bl w w')(w:World):
  eg 216 #[EV 1 (v1,v2,v3) t n o (.slice a m c)] w fun e w'=>e= .returned (.bool ((chk v1 v2 v3==0)&&(v1 != 2||decide (0<=v2))))/\Bl w w':=by
 obtain⟨z,hz⟩:∃z,Hid (chk v1 v2 v3=z):=⟨_,rfl⟩
 have HC:Hid (∀w,eg 259 #[V v1 v2 v3] w fun e w'=>e= .returned (.int .i64 z)/\Bl w w'):=fun w=>(by rw[<-hz.o];exact b7z v1 v2 v3 w);rw[hz.o];by_cases hz0:z=0
 ·subst hz0;by_cases hv:v1=2
  ·subst hv;by_cases h0:0<=v2
   ·have hd:decide (0<=v2)=true:=by simpa using h0
    have hn:¬v2<0:=aE;rw[hd];have HB:=aB hB;clear hB;go_enter func216,ntmps216;go_wp2_with fail;refine(HB.o _).mono ?_;rintro e w1 ⟨rfl,hb1⟩;have hX1:=(hb1.block w.heap.size aa).trans (aN w _);obtain⟨⟨e0,e1,e2,e3,e4,e5,e6,e7⟩,-⟩:=eight hX1;have hlt:=(aC.1 hX1).1;have HBL:=aB (((Bl.refl w).alloc _).call hb1);clear hb1;go_wp2_with fail;refine(HC.o _).mono ?_;rintro e w2 ⟨rfl,hb2⟩;have HB2:=aB ((HBL.o.alloc _).call hb2);have hX2:=(((Bl.refl w1).alloc _).call hb2).block _ hlt |>.trans hX1
    obtain⟨⟨i0,i1,i2,i3,i4,i5,i6,i7⟩,-⟩:=eight hX2;clear e0 e1 e2 e3 e4 e5 e6 e7 hb2;go_wp2;go_ret;exact⟨rfl,HB2.o⟩
   ·have hd:decide (0<=v2)=false:=by simpa using h0
    rw[hd];have HB:=aB hB;clear hB;go_enter func216,ntmps216;go_wp2_with fail;refine(HB.o _).mono ?_;rintro e w1 ⟨rfl,hb1⟩;have hX1:=(hb1.block w.heap.size aa).trans (aN w _);obtain⟨⟨e0,e1,e2,e3,e4,e5,e6,e7⟩,-⟩:=eight hX1;have hlt:=(aC.1 hX1).1;have HBL:=aB (((Bl.refl w).alloc _).call hb1);clear hb1;go_wp2_with fail;refine(HC.o _).mono ?_;rintro e w2 ⟨rfl,hb2⟩;have HB2:=aB ((HBL.o.alloc _).call hb2);have hX2:=(((Bl.refl w1).alloc _).call hb2).block _ hlt |>.trans hX1
    obtain⟨⟨i0,i1,i2,i3,i4,i5,i6,i7⟩,-⟩:=eight hX2;clear e0 e1 e2 e3 e4 e5 e6 e7 hb2;go_wp2;go_ret;exact⟨rfl,HB2.o⟩
  ·have hv':(v1 != 2)=true:=by simpa using hv
   have hv'':(v1==2)=false:=(by simpa using hv);rw[hv',Bool.true_or];clear hv;have HB:=aB hB;clear hB;go_enter func216,ntmps216;go_wp2_with fail;refine(HB.o _).mono ?_;rintro e w1 ⟨rfl,hb1⟩;have hX1:=(hb1.block w.heap.size aa).trans (aN w _);obtain⟨⟨e0,e1,e2,e3,e4,e5,e6,e7⟩,-⟩:=eight hX1;have hlt:=(aC.1 hX1).1;have HBL:=aB (((Bl.refl w).alloc _).call hb1);clear hb1;go_wp2_with fail;refine(HC.o _).mono ?_;rintro e w2 ⟨rfl,hb2⟩;have HB2:=aB ((HBL.o.alloc _).call hb2);have hX2:=(((Bl.refl w1).alloc _).call hb2).block _ hlt |>.trans hX1
   obtain⟨⟨i0,i1,i2,i3,i4,i5,i6,i7⟩,-⟩:=eight hX2;clear e0 e1 e2 e3 e4 e5 e6 e7 hb2;go_wp2;go_ret;exact⟨rfl,HB2.o⟩
 ·have hz':(z==0)=false:=by simpa using hz0
  rw[hz',pK];clear hz0;have HB:=aB hB;clear hB;go_enter func216,ntmps216;go_wp2_with fail;refine(HB.o _).mono ?_;rintro e w1 ⟨rfl,hb1⟩;have hX1:=(hb1.block w.heap.size aa).trans (aN w _);obtain⟨⟨e0,e1,e2,e3,e4,e5,e6,e7⟩,-⟩:=eight hX1;have hlt:=(aC.1 hX1).1;have HBL:=aB (((Bl.refl w).alloc _).call hb1);clear hb1;go_wp2_with fail;refine(HC.o _).mono ?_;rintro e w2 ⟨rfl,hb2⟩;have HB2:=aB ((HBL.o.alloc _).call hb2);go_wp2;go_ret;exact⟨rfl,HB2.o⟩
theorem c0i{v1 v2 o:Int}{v3 t n:List UInt8}{a a2:Option Addr}{m c c2:Nat}(hlt:t.length<=9223372036854775807)(hln:n.length<=9223372036854775807)(hB:∀w,eg 258 #[EV 2 (v1,v2,v3) t n o (.slice a m c)] w fun e w'=>e= .returned (EV 2 (v1,v2,v3) t n o (.slice a2 m c2))/\Bl w w')(w:World)(hG:nD w):
  eg 216 #[EV 2 (v1,v2,v3) t n o (.slice a m c)] w fun e w'=>e= .returned (.bool (mO n&&(t==[]||mO t)))/\Bl w w':=by
 have HG:=aB hG;obtain⟨bn,hbn⟩:∃b,Hid (mO n=b):=⟨_,rfl⟩
 obtain⟨bt,hbt⟩:∃b,Hid (mO t=b):=⟨_,rfl⟩
 have HN:Hid (∀w,nD w->eg 260 #[S n] w fun e w'=>e= .returned (.bool bn)/\Bl w w'):=fun w hG=>(by rw[<-hbn.o];exact a6g n hln w hG);have HT:Hid (∀w,nD w->eg 260 #[S t] w fun e w'=>e= .returned (.bool bt)/\Bl w w'):=fun w hG=>(by rw[<-hbt.o];exact a6g t hlt w hG);rw[hbn.o,hbt.o];clear hG hlt hln;cases bn
 ·rw[pK];have HB:=aB hB;clear hB;go_enter func216,ntmps216;go_wp2_with fail;refine(HB.o _).mono ?_;rintro e w1 ⟨rfl,hb1⟩;have hX1:=(hb1.block w.heap.size aa).trans (aN w _);obtain⟨⟨e0,e1,e2,e3,e4,e5,e6,e7⟩,-⟩:=eight hX1;have hlt:=(aC.1 hX1).1;have HBL:=aB (((Bl.refl w).alloc _).call hb1);clear hb1;go_wp2_with fail;refine(HN.o _ (HG.o.bl (HBL.o.alloc _))).mono ?_;rintro e w2 ⟨rfl,hb2⟩;have HB2:=aB ((HBL.o.alloc _).call hb2);go_wp2;go_ret;exact⟨rfl,HB2.o⟩
 ·rw[rC];by_cases ht:t=[]
  ·subst ht;have HB:=aB hB;clear hB;go_enter func216,ntmps216;go_wp2_with fail;refine(HB.o _).mono ?_;rintro e w1 ⟨rfl,hb1⟩;have hX1:=(hb1.block w.heap.size aa).trans (aN w _);obtain⟨⟨e0,e1,e2,e3,e4,e5,e6,e7⟩,-⟩:=eight hX1;have hlt:=(aC.1 hX1).1;have HBL:=aB (((Bl.refl w).alloc _).call hb1);clear hb1;go_wp2_with fail;refine(HN.o _ (HG.o.bl (HBL.o.alloc _))).mono ?_;rintro e w2 ⟨rfl,hb2⟩;have HB2:=aB ((HBL.o.alloc _).call hb2);have hX2:=(((Bl.refl w1).alloc _).call hb2).block _ hlt |>.trans hX1
   obtain⟨⟨i0,i1,i2,i3,i4,i5,i6,i7⟩,-⟩:=eight hX2;clear e0 e1 e2 e3 e4 e5 e6 e7 hb2;go_wp2;go_ret;exact⟨rfl,HB2.o⟩
  ·have ht':(t==[])=false:=by simpa using ht
   rw[ht',Bool.false_or];clear ht;have HB:=aB hB;clear hB;go_enter func216,ntmps216;go_wp2_with fail;refine(HB.o _).mono ?_;rintro e w1 ⟨rfl,hb1⟩;have hX1:=(hb1.block w.heap.size aa).trans (aN w _);obtain⟨⟨e0,e1,e2,e3,e4,e5,e6,e7⟩,-⟩:=eight hX1;have hlt:=(aC.1 hX1).1;have HBL:=aB (((Bl.refl w).alloc _).call hb1);clear hb1;go_wp2_with fail;refine(HN.o _ (HG.o.bl (HBL.o.alloc _))).mono ?_;rintro e w2 ⟨rfl,hb2⟩;have HB2:=aB ((HBL.o.alloc _).call hb2);have hX2:=(((Bl.refl w1).alloc _).call hb2).block _ hlt |>.trans hX1
   obtain⟨⟨i0,i1,i2,i3,i4,i5,i6,i7⟩,-⟩:=eight hX2;clear e0 e1 e2 e3 e4 e5 e6 e7 hb2;go_wp2_with fail;refine(HT.o _ (HG.o.bl HB2.o)).mono ?_;rintro e w3 ⟨rfl,hb3⟩;go_wp2;go_ret;exact⟨rfl,HB2.o.call hb3⟩
theorem c0h{v1 v2 o:Int}{v3 t n:List UInt8}{a a2:Option Addr}{m c c2:Nat}(hB:∀w,eg 258 #[EV 3 (v1,v2,v3) t n o (.slice a m c)] w fun e w'=>e= .returned (EV 3 (v1,v2,v3) t n o (.slice a2 m c2))/\Bl w w')(w:World):
  eg 216 #[EV 3 (v1,v2,v3) t n o (.slice a m c)] w fun e w'=>e= .returned (.bool (decide (1<=o/\o<=20)&&m==fJ o))/\Bl w w':=by
 by_cases ho:1<=o/\o<=20
 ·rw[decide_eq_true ho,rC];have HO:=aB ho;obtain⟨b,hb⟩:∃b,Hid ((m==fJ o)=b):=⟨_,rfl⟩
  have hbi:((m:Int)==(fJ o:Int))=b:=by
   rw[<-hb.o];cases h:(m==fJ o)
   ·have:m≠fJ o:=by simpa using h
    simp;omega
   ·have:m=fJ o:=by simpa using h
    simp;omega
  rw[hb.o];clear ho;have HB:=aB hB;clear hB;go_enter func216,ntmps216;go_wp2_with fail;refine(HB.o _).mono ?_;rintro e w1 ⟨rfl,hb1⟩;have hX1:=(hb1.block w.heap.size aa).trans (aN w _);obtain⟨⟨e0,e1,e2,e3,e4,e5,e6,e7⟩,-⟩:=eight hX1;have hlt:=(aC.1 hX1).1;have HBL:=aB (((Bl.refl w).alloc _).call hb1);clear hb1;go_wp2_with fail
  (with_reducible refine(uR o HO.o _).mono ?_)
  rintro e w2 ⟨rfl,hb2⟩;have HB2:=aB ((HBL.o.alloc _).call hb2);have hX2:=(((Bl.refl w1).alloc _).call hb2).block _ hlt |>.trans hX1
  have hlt2:=(aC.1 hX2).1;obtain⟨⟨i0,i1,i2,i3,i4,i5,i6,i7⟩,-⟩:=eight hX2;clear e0 e1 e2 e3 e4 e5 e6 e7 hb2;go_wp2;go_ret;exact⟨rfl,HB2.o.alloc _⟩
 ·rw[decide_eq_false ho,pK];have HO:=aB ho;clear ho;have HB:=aB hB;clear hB;go_enter func216,ntmps216;go_wp2_with fail;refine(HB.o _).mono ?_;rintro e w1 ⟨rfl,hb1⟩;have hX1:=(hb1.block w.heap.size aa).trans (aN w _);obtain⟨⟨e0,e1,e2,e3,e4,e5,e6,e7⟩,-⟩:=eight hX1;have hlt:=(aC.1 hX1).1;have HBL:=aB (((Bl.refl w).alloc _).call hb1);clear hb1;go_wp2_with fail
  (with_reducible refine(b4z o HO.o _).mono ?_)
  rintro e w2 ⟨rfl,hb2⟩;have HB2:=aB ((HBL.o.alloc _).call hb2);go_wp2;go_ret;exact⟨rfl,HB2.o.alloc _⟩
theorem c0g{v1 v2 o:Int}{v3 t n:List UInt8}{a a2:Option Addr}{m c c2:Nat}(hB:∀w,eg 258 #[EV 4 (v1,v2,v3) t n o (.slice a m c)] w fun e w'=>e= .returned (EV 4 (v1,v2,v3) t n o (.slice a2 m c2))/\Bl w w')(w:World):
  eg 216 #[EV 4 (v1,v2,v3) t n o (.slice a m c)] w fun e w'=>e= .returned (.bool (decide (0<m)))/\Bl w w':=by
 have hd:decide (0<m)=decide ((0:Int)<(m:Int)):=aa;rw[hd];have HB:=aB hB;clear hB;go_enter func216,ntmps216;go_wp2_with fail;refine(HB.o _).mono ?_;rintro e w1 ⟨rfl,hb1⟩;have hX1:=(hb1.block w.heap.size aa).trans (aN w _);obtain⟨⟨e0,e1,e2,e3,e4,e5,e6,e7⟩,-⟩:=eight hX1;have hlt:=(aC.1 hX1).1;have HBL:=aB (((Bl.refl w).alloc _).call hb1);clear hb1;go_wp2;go_ret;exact⟨rfl,HBL.o.alloc _⟩
theorem c0f{k v1 v2 o:Int}{v3 t n:List UInt8}{a a2:Option Addr}{m c c2:Nat}(hk:k≠1/\k≠2/\k≠3/\k≠4/\k≠5)(hB:∀w,eg 258 #[EV k (v1,v2,v3) t n o (.slice a m c)] w fun e w'=>e= .returned (EV k (v1,v2,v3) t n o (.slice a2 m c2))/\Bl w w')(w:World):
  eg 216 #[EV k (v1,v2,v3) t n o (.slice a m c)] w fun e w'=>e= .returned (.bool false)/\Bl w w':=by
 obtain⟨h1,h2,h3,h4,h5⟩:=hk;have b1:(k==1)=false:=cC;have b2:(k==2)=false:=cH;have b3:(k==3)=false:=ck;have b4:(k==4)=false:=cm;have b5:(k==5)=false:=(by simpa using h5);clear h1 h2 h3 h4 h5;have HB:=aB hB;clear hB;go_enter func216,ntmps216;go_wp2_with fail;refine(HB.o _).mono ?_;rintro e w1 ⟨rfl,hb1⟩;have hX1:=(hb1.block w.heap.size aa).trans (aN w _);obtain⟨⟨e0,e1,e2,e3,e4,e5,e6,e7⟩,-⟩:=eight hX1;have hlt:=(aC.1 hX1).1;have HBL:=aB (((Bl.refl w).alloc _).call hb1);clear hb1;go_wp2;go_ret;exact⟨rfl,HBL.o.alloc _⟩
end
section
theorem b6x{v1 v2 o:Int}{v3 t n:List UInt8}{a a2:Option Addr}{m c c2:Nat}(hn:gP.contains n=false)(hB:∀w,eg 258 #[EV 5 (v1,v2,v3) t n o (.slice a m c)] w fun e w'=>e= .returned (EV 5 (v1,v2,v3) t n o (.slice a2 m c2))/\Bl w w')(w:World):
  eg 216 #[EV 5 (v1,v2,v3) t n o (.slice a m c)] w fun e w'=>e= .returned (.bool false)/\Bl w w':=by
 have HB:=aB hB;clear hB;go_enter func216,ntmps216;go_wp2_with fail;refine(HB.o _).mono ?_;rintro e w1 ⟨rfl,hb1⟩;have hX1:=(hb1.block w.heap.size aa).trans (aN w _);obtain⟨⟨e0,e1,e2,e3,e4,e5,e6,e7⟩,-⟩:=eight hX1;have hlt:=(aC.1 hX1).1;have HBL:=aB (((Bl.refl w).alloc _).call hb1);clear hb1;go_wp2_with fail;have hX2:=((Bl.refl w1).alloc (.cells #[.int .i64 5,.int .i64 v1,.int .i64 v2,S v3,S t,S n,.int .i64 o,.slice a2 m c2] 38)).block _ hlt |>.trans hX1
 have HX2:=aB hX2;have HB2:=aB (HBL.o.alloc (.cells #[.int .i64 5,.int .i64 v1,.int .i64 v2,S v3,S t,S n,.int .i64 o,.slice a2 m c2] 38));clear e0 e1 e2 e3 e4 e5 e6 e7 hX1 hX2;generalize w1.alloc (.cells #[.int .i64 5,.int .i64 v1,.int .i64 v2,S v3,S t,S n,.int .i64 o,.slice a2 m c2] 38)=w2 at *;refine wp_region_noPanic (bM (fun B=>B.heap[w.heap.size]?=some (.cells #[.int .i64 5,.int .i64 v1,.int .i64 v2,S v3,S t,S n,.int .i64 o,.slice a m c] 38 (0,0))) ((.take 1 (.take 2 (.one 0 (.one 3 (.take 4 (.take 5 (.take 6 (.take 7 (.take 8 (.take 9 (.take 10 (.take 11 (.take 12 (.take 13 (.take 14 (.take 15 (.take 16 (.take 17 (.take 18 (.take 19 (.take 20 (.take 21 (.take 22 (.take 23 (.take 24 .done)))))))))))))))))))))))))) af af af (fun _ _ _ _ _ h=>h) (HX2.o) ?_);intro wd HWD hY;iterate 2 (refine cT ?_)
 refine aL rfl (fun K hK=>?_);go_simp;((with_reducible refine(kU _).mono ?_);rintro e w3 ⟨rfl,rfl⟩);go_wp2_with fail;refine hK.o _ _ (az) ?_;clear hY hK K;intro hY;refine aL rfl (fun K hK=>?_);go_simp;(refine(kN (aN wd _) n).mono ?_;rintro e w4 ⟨rfl,rfl⟩;rw[hn]);go_wp2_with fail;refine hK.o _ _ (az) ?_;clear hY hK K;intro hY;refine cT ?_;refine dK rfl ab ?_;(try simp only[aK,aA,aD,aF])
 refine dK rfl ab ?_;(try simp only[aK,aA,aD,aF])
 refine dK rfl ab ?_;(try simp only[aK,aA,aD,aF])
 refine dK rfl ab ?_;(try simp only[aK,aA,aD,aF])
 refine dK rfl ab ?_;(try simp only[aK,aA,aD,aF])
 refine dK rfl ab ?_;(try simp only[aK,aA,aD,aF])
 refine dK rfl ab ?_;(try simp only[aK,aA,aD,aF])
 refine dK rfl ab ?_;(try simp only[aK,aA,aD,aF])
 refine dK rfl ab ?_;(try simp only[aK,aA,aD,aF])
 refine dK rfl ab ?_;(try simp only[aK,aA,aD,aF])
 refine dK rfl ab ?_;(try simp only[aK,aA,aD,aF])
 refine dK rfl ab ?_;(try simp only[aK,aA,aD,aF])
 refine dK rfl ab ?_;(try simp only[aK,aA,aD,aF])
 refine dK rfl ab ?_;(try simp only[aK,aA,aD,aF])
 refine dK rfl ab ?_;(try simp only[aK,aA,aD,aF])
 refine dK rfl ab ?_;(try simp only[aK,aA,aD,aF])
 refine dK rfl ab ?_;(try simp only[aK,aA,aD,aF])
 refine dK rfl ab ?_;(try simp only[aK,aA,aD,aF])
 iterate 2 (refine cT ?_)
 refine fO (bF ?_);go_wp2;go_ret;exact⟨rfl,(HB2.o.call HWD.o).alloc _⟩
theorem b6w{v1 v2 o:Int}{v3 t n:List UInt8}{a a2:Option Addr}{c c2:Nat}(hn:gP.contains n=true)(hB:∀w,eg 258 #[EV 5 (v1,v2,v3) t n o (.slice a 1 c)] w fun e w'=>e= .returned (EV 5 (v1,v2,v3) t n o (.slice a2 1 c2))/\Bl w w')(w:World):
  eg 216 #[EV 5 (v1,v2,v3) t n o (.slice a 1 c)] w fun e w'=>e= .returned (.bool true)/\Bl w w':=by
 have HB:=aB hB;clear hB;go_enter func216,ntmps216;go_wp2_with fail;refine(HB.o _).mono ?_;rintro e w1 ⟨rfl,hb1⟩;have hX1:=(hb1.block w.heap.size aa).trans (aN w _);obtain⟨⟨e0,e1,e2,e3,e4,e5,e6,e7⟩,-⟩:=eight hX1;have hlt:=(aC.1 hX1).1;have HBL:=aB (((Bl.refl w).alloc _).call hb1);clear hb1;go_wp2_with fail;have hX2:=((Bl.refl w1).alloc (.cells #[.int .i64 5,.int .i64 v1,.int .i64 v2,S v3,S t,S n,.int .i64 o,.slice a2 1 c2] 38)).block _ hlt |>.trans hX1
 have HX2:=aB hX2;have HB2:=aB (HBL.o.alloc (.cells #[.int .i64 5,.int .i64 v1,.int .i64 v2,S v3,S t,S n,.int .i64 o,.slice a2 1 c2] 38));clear e0 e1 e2 e3 e4 e5 e6 e7 hX1 hX2;generalize w1.alloc (.cells #[.int .i64 5,.int .i64 v1,.int .i64 v2,S v3,S t,S n,.int .i64 o,.slice a2 1 c2] 38)=w2 at *;refine wp_region_noPanic (bM (fun B=>B.heap[w.heap.size]?=some (.cells #[.int .i64 5,.int .i64 v1,.int .i64 v2,S v3,S t,S n,.int .i64 o,.slice a 1 c] 38 (0,0))) ((.take 1 (.take 2 (.one 0 (.one 3 (.take 4 (.take 5 (.take 6 (.one 7 (.take 8 (.take 9 (.take 10 (.take 11 (.take 12 (.take 13 (.take 14 (.take 15 (.take 16 (.take 17 (.take 18 (.take 19 (.take 20 (.take 21 (.take 22 (.take 23 (.take 24 .done)))))))))))))))))))))))))) af af af (fun _ _ _ _ _ h=>h) (HX2.o) ?_);intro wd HWD hY;iterate 2 (refine cT ?_)
 refine aL rfl (fun K hK=>?_);go_simp;((with_reducible refine(kU _).mono ?_);rintro e w3 ⟨rfl,rfl⟩);go_wp2_with fail;refine hK.o _ _ (az) ?_;clear hY hK K;intro hY;refine aL rfl (fun K hK=>?_);go_simp;(refine(kN (aN wd _) n).mono ?_;rintro e w4 ⟨rfl,rfl⟩;rw[hn]);go_wp2_with fail;refine hK.o _ _ (az) ?_;clear hY hK K;intro hY;iterate 3 (refine cT ?_)
 refine aL rfl (fun K hK=>?_);go_simp;refine hK.o _ _ (hY) ?_;clear hY hK K;intro hY;iterate 2 (refine cT ?_)
 refine dK rfl ab ?_;(try simp only[aK,aA,aD,aF])
 refine dK rfl ab ?_;(try simp only[aK,aA,aD,aF])
 refine dK rfl ab ?_;(try simp only[aK,aA,aD,aF])
 refine dK rfl ab ?_;(try simp only[aK,aA,aD,aF])
 refine dK rfl ab ?_;(try simp only[aK,aA,aD,aF])
 refine dK rfl ab ?_;(try simp only[aK,aA,aD,aF])
 refine dK rfl ab ?_;(try simp only[aK,aA,aD,aF])
 refine dK rfl ab ?_;(try simp only[aK,aA,aD,aF])
 refine dK rfl ab ?_;(try simp only[aK,aA,aD,aF])
 refine dK rfl ab ?_;(try simp only[aK,aA,aD,aF])
 refine dK rfl ab ?_;(try simp only[aK,aA,aD,aF])
 refine dK rfl ab ?_;(try simp only[aK,aA,aD,aF])
 iterate 3 (refine cT ?_)
 refine fO (bF ?_);go_wp2;go_ret;exact⟨rfl,(HB2.o.call HWD.o).alloc _⟩
theorem b6u{v1 v2 o:Int}{v3 t n:List UInt8}{a a2:Option Addr}{m c c2:Nat}(hn:gP.contains n=true)(hB:∀w,eg 258 #[EV 5 (v1,v2,v3) t n o (.slice a (m+2) c)] w fun e w'=>e= .returned (EV 5 (v1,v2,v3) t n o (.slice a2 (m+2) c2))/\Bl w w')(w:World):
  eg 216 #[EV 5 (v1,v2,v3) t n o (.slice a (m+2) c)] w fun e w'=>e= .returned (.bool false)/\Bl w w':=by
 have HB:=aB hB;clear hB;go_enter func216,ntmps216;go_wp2_with fail;refine(HB.o _).mono ?_;rintro e w1 ⟨rfl,hb1⟩;have hX1:=(hb1.block w.heap.size aa).trans (aN w _);obtain⟨⟨e0,e1,e2,e3,e4,e5,e6,e7⟩,-⟩:=eight hX1;have hlt:=(aC.1 hX1).1;have HBL:=aB (((Bl.refl w).alloc _).call hb1);clear hb1;go_wp2_with fail;have hX2:=((Bl.refl w1).alloc (.cells #[.int .i64 5,.int .i64 v1,.int .i64 v2,S v3,S t,S n,.int .i64 o,.slice a2 (m+2) c2] 38)).block _ hlt |>.trans hX1
 have HX2:=aB hX2;have HB2:=aB (HBL.o.alloc (.cells #[.int .i64 5,.int .i64 v1,.int .i64 v2,S v3,S t,S n,.int .i64 o,.slice a2 (m+2) c2] 38));clear e0 e1 e2 e3 e4 e5 e6 e7 hX1 hX2;generalize w1.alloc (.cells #[.int .i64 5,.int .i64 v1,.int .i64 v2,S v3,S t,S n,.int .i64 o,.slice a2 (m+2) c2] 38)=w2 at *;refine wp_region_noPanic (bM (fun B=>B.heap[w.heap.size]?=some (.cells #[.int .i64 5,.int .i64 v1,.int .i64 v2,S v3,S t,S n,.int .i64 o,.slice a (m+2) c] 38 (0,0))) ((.take 1 (.take 2 (.one 0 (.one 3 (.take 4 (.take 5 (.take 6 (.one 7 (.take 8 (.take 9 (.take 10 (.take 11 (.one 12 (.take 13 (.take 14 (.take 15 (.take 16 (.take 17 (.take 18 (.take 19 (.take 20 (.take 21 (.take 22 (.take 23 (.take 24 .done)))))))))))))))))))))))))) af af af (fun _ _ _ _ _ h=>h) (HX2.o) ?_);intro wd HWD hY;iterate 2 (refine cT ?_)
 refine aL rfl (fun K hK=>?_);go_simp;((with_reducible refine(kU _).mono ?_);rintro e w3 ⟨rfl,rfl⟩);go_wp2_with fail;refine hK.o _ _ (az) ?_;clear hY hK K;intro hY;refine aL rfl (fun K hK=>?_);go_simp;(refine(kN (aN wd _) n).mono ?_;rintro e w4 ⟨rfl,rfl⟩;rw[hn]);go_wp2_with fail;refine hK.o _ _ (az) ?_;clear hY hK K;intro hY;iterate 3 (refine cT ?_)
 refine aL rfl (fun K hK=>?_);go_simp;refine hK.o _ _ (hY) ?_;clear hY hK K;intro hY;iterate 4 (refine cT ?_)
 refine aL rfl (fun K hK=>?_);go_simp;refine hK.o _ _ (hY) ?_;clear hY hK K;intro hY;iterate 2 (refine cT ?_)
 refine dK rfl ab ?_;(try simp only[aK,aA,aD,aF])
 refine dK rfl ab ?_;(try simp only[aK,aA,aD,aF])
 refine dK rfl ab ?_;(try simp only[aK,aA,aD,aF])
 refine dK rfl ab ?_;(try simp only[aK,aA,aD,aF])
 refine dK rfl ab ?_;(try simp only[aK,aA,aD,aF])
 refine dK rfl ab ?_;(try simp only[aK,aA,aD,aF])
 iterate 4 (refine cT ?_)
 refine fO (bF ?_);go_wp2;go_ret;exact⟨rfl,(HB2.o.call HWD.o).alloc _⟩
theorem b6v{v1 v2 o:Int}{v3 t:List UInt8}{a a2:Option Addr}{c c2:Nat}(hn:gP.contains gX=true)(hB:∀w,eg 258 #[EV 5 (v1,v2,v3) t gX o (.slice a 0 c)] w fun e w'=>e= .returned (EV 5 (v1,v2,v3) t gX o (.slice a2 0 c2))/\Bl w w')(w:World):
  eg 216 #[EV 5 (v1,v2,v3) t gX o (.slice a 0 c)] w fun e w'=>e= .returned (.bool true)/\Bl w w':=by
 have HB:=aB hB;clear hB;go_enter func216,ntmps216;go_wp2_with fail;refine(HB.o _).mono ?_;rintro e w1 ⟨rfl,hb1⟩;have hX1:=(hb1.block w.heap.size aa).trans (aN w _);obtain⟨⟨e0,e1,e2,e3,e4,e5,e6,e7⟩,-⟩:=eight hX1;have hlt:=(aC.1 hX1).1;have HBL:=aB (((Bl.refl w).alloc _).call hb1);clear hb1;go_wp2_with fail;have hX2:=((Bl.refl w1).alloc (.cells #[.int .i64 5,.int .i64 v1,.int .i64 v2,S v3,S t,S gX,.int .i64 o,.slice a2 0 c2] 38)).block _ hlt |>.trans hX1
 have HX2:=aB hX2;have HB2:=aB (HBL.o.alloc (.cells #[.int .i64 5,.int .i64 v1,.int .i64 v2,S v3,S t,S gX,.int .i64 o,.slice a2 0 c2] 38));clear e0 e1 e2 e3 e4 e5 e6 e7 hX1 hX2;generalize w1.alloc (.cells #[.int .i64 5,.int .i64 v1,.int .i64 v2,S v3,S t,S gX,.int .i64 o,.slice a2 0 c2] 38)=w2 at *;refine wp_region_noPanic (bM (fun B=>B.heap[w.heap.size]?=some (.cells #[.int .i64 5,.int .i64 v1,.int .i64 v2,S v3,S t,S gX,.int .i64 o,.slice a 0 c] 38 (0,0))) ((.take 1 (.take 2 (.one 0 (.one 3 (.take 4 (.take 5 (.take 6 (.one 7 (.take 8 (.take 9 (.take 10 (.take 11 (.one 12 (.take 13 (.take 14 (.take 15 (.take 16 (.one 17 (.take 18 (.one 19 (.take 20 (.take 21 (.take 22 (.take 23 (.take 24 .done)))))))))))))))))))))))))) af af af (fun _ _ _ _ _ h=>h) (HX2.o) ?_);intro wd HWD hY;iterate 2 (refine cT ?_)
 refine aL rfl (fun K hK=>?_);go_simp;((with_reducible refine(kU _).mono ?_);rintro e w3 ⟨rfl,rfl⟩);go_wp2_with fail;refine hK.o _ _ (az) ?_;clear hY hK K;intro hY;refine aL rfl (fun K hK=>?_);go_simp;(refine(kN (aN wd _) gX).mono ?_;rintro e w4 ⟨rfl,rfl⟩;rw[hn]);go_wp2_with fail;refine hK.o _ _ (az) ?_;clear hY hK K;intro hY;iterate 3 (refine cT ?_)
 refine aL rfl (fun K hK=>?_);go_simp;refine hK.o _ _ (hY) ?_;clear hY hK K;intro hY;iterate 4 (refine cT ?_)
 refine aL rfl (fun K hK=>?_);go_simp;refine hK.o _ _ (hY) ?_;clear hY hK K;intro hY;iterate 4 (refine cT ?_)
 refine aL rfl (fun K hK=>?_);go_simp;((with_reducible refine(kU _).mono ?_);rintro e w5 ⟨rfl,rfl⟩);go_wp2_with fail;refine hK.o _ _ (az) ?_;clear hY hK K;intro hY;refine cT ?_;refine aL rfl (fun K hK=>?_);go_simp;refine hK.o _ _ (hY) ?_;clear hY hK K;intro hY;iterate 5 (refine cT ?_)
 refine fO (bF ?_);go_wp2;go_ret;exact⟨rfl,((HB2.o.call HWD.o).alloc _).alloc _⟩
theorem b6t{v1 v2 o:Int}{v3 t n:List UInt8}{a a2:Option Addr}{c c2:Nat}(hn:gP.contains n=true)(hc:(n==gX)=false)(hB:∀w,eg 258 #[EV 5 (v1,v2,v3) t n o (.slice a 0 c)] w fun e w'=>e= .returned (EV 5 (v1,v2,v3) t n o (.slice a2 0 c2))/\Bl w w')(w:World):
  eg 216 #[EV 5 (v1,v2,v3) t n o (.slice a 0 c)] w fun e w'=>e= .returned (.bool false)/\Bl w w':=by
 have HB:=aB hB;clear hB;go_enter func216,ntmps216;go_wp2_with fail;refine(HB.o _).mono ?_;rintro e w1 ⟨rfl,hb1⟩;have hX1:=(hb1.block w.heap.size aa).trans (aN w _);obtain⟨⟨e0,e1,e2,e3,e4,e5,e6,e7⟩,-⟩:=eight hX1;have hlt:=(aC.1 hX1).1;have HBL:=aB (((Bl.refl w).alloc _).call hb1);clear hb1;go_wp2_with fail;have hX2:=((Bl.refl w1).alloc (.cells #[.int .i64 5,.int .i64 v1,.int .i64 v2,S v3,S t,S n,.int .i64 o,.slice a2 0 c2] 38)).block _ hlt |>.trans hX1
 have HX2:=aB hX2;have HB2:=aB (HBL.o.alloc (.cells #[.int .i64 5,.int .i64 v1,.int .i64 v2,S v3,S t,S n,.int .i64 o,.slice a2 0 c2] 38));clear e0 e1 e2 e3 e4 e5 e6 e7 hX1 hX2;generalize w1.alloc (.cells #[.int .i64 5,.int .i64 v1,.int .i64 v2,S v3,S t,S n,.int .i64 o,.slice a2 0 c2] 38)=w2 at *;refine wp_region_noPanic (bM (fun B=>B.heap[w.heap.size]?=some (.cells #[.int .i64 5,.int .i64 v1,.int .i64 v2,S v3,S t,S n,.int .i64 o,.slice a 0 c] 38 (0,0))) ((.take 1 (.take 2 (.one 0 (.one 3 (.take 4 (.take 5 (.take 6 (.one 7 (.take 8 (.take 9 (.take 10 (.take 11 (.one 12 (.take 13 (.take 14 (.take 15 (.take 16 (.one 17 (.take 18 (.one 19 (.take 20 (.take 21 (.take 22 (.take 23 (.take 24 .done)))))))))))))))))))))))))) af af af (fun _ _ _ _ _ h=>h) (HX2.o) ?_);intro wd HWD hY;iterate 2 (refine cT ?_)
 refine aL rfl (fun K hK=>?_);go_simp;((with_reducible refine(kU _).mono ?_);rintro e w3 ⟨rfl,rfl⟩);go_wp2_with fail;refine hK.o _ _ (az) ?_;clear hY hK K;intro hY;refine aL rfl (fun K hK=>?_);go_simp;(refine(kN (aN wd _) n).mono ?_;rintro e w4 ⟨rfl,rfl⟩;rw[hn]);go_wp2_with fail;refine hK.o _ _ (az) ?_;clear hY hK K;intro hY;iterate 3 (refine cT ?_)
 refine aL rfl (fun K hK=>?_);go_simp;refine hK.o _ _ (hY) ?_;clear hY hK K;intro hY;iterate 4 (refine cT ?_)
 refine aL rfl (fun K hK=>?_);go_simp;refine hK.o _ _ (hY) ?_;clear hY hK K;intro hY;iterate 4 (refine cT ?_)
 refine aL rfl (fun K hK=>?_);go_simp;((with_reducible refine(kU _).mono ?_);rintro e w5 ⟨rfl,rfl⟩);go_wp2_with fail;refine hK.o _ _ (az) ?_;clear hY hK K;intro hY;refine cT ?_;refine aL rfl (fun K hK=>?_);go_simp;refine hK.o _ _ (hY) ?_;clear hY hK K;intro hY;iterate 5 (refine cT ?_)
 refine fO (bF ?_);go_wp2;go_ret;exact⟨rfl,((HB2.o.call HWD.o).alloc _).alloc _⟩
end
section
theorem wT{b:Bool}(h:b=true->False):b=false:=by
 cases b
 ·rfl
 ·exact absurd rfl h
theorem a2m(k v1 v2 o:Int)(v3 t n:List UInt8)(a:Option Addr)(args:List Ex)(c:Nat)(hlt:t.length<=9223372036854775807)(hln:n.length<=9223372036854775807)(w:World)(hG:nD w):
  eg 216 #[EV k (v1,v2,v3) t n o (.slice a args.length c)] w fun e w'=>e= .returned (.bool (dV k (v1,v2,v3) t n o args))/\Bl w w':=by
 have hnil:∀l:List Ex,0=l.length->l=[]:=fun l h=>lM h.symm;by_cases h1:k=1
 ·subst h1;have hB:∀w,eg 258 #[EV 1 (v1,v2,v3) t n o (.slice a args.length c)] w fun e w'=>e= .returned (EV 1 (v1,v2,v3) [] [] 0 (.slice none 0 0))/\Bl w w':=fun w=>rT 1 v1 v2 o v3 t n a args.length c w;by_cases hm:t=[]/\n=[]/\o=0/\args=[]
  ·obtain⟨rfl,rfl,rfl,rfl⟩:=hm;have h:=c0j (m:=0) hB w;rw[show dV 1 (v1,v2,v3) [] [] 0 []=((chk v1 v2 v3==0)&&(v1 != 2||decide (0<=v2))) by simp[dV]];exact h
  ·rw[wT (b:=dV 1 (v1,v2,v3) t n o args) fun hh=>by
    simp only[dV,if_true,aQ,beq_iff_eq,iZ] at hh;exact hm ⟨hh.1.1.1.1.1,hh.1.1.1.1.2,hh.1.1.1.2,hh.1.1.2⟩]
   exact pQ hB (by rintro⟨-,-,-,h4,h5,h6,h7⟩;exact hm ⟨h4.symm,h5.symm,h6.symm,hnil _ h7⟩) w
 by_cases h2:k=2
 ·subst h2;have hB:∀w,eg 258 #[EV 2 (v1,v2,v3) t n o (.slice a args.length c)] w fun e w'=>e= .returned (EV 2 (0,0,[]) t n 0 (.slice none 0 0))/\Bl w w':=fun w=>rT 2 v1 v2 o v3 t n a args.length c w;by_cases hm:v1=0/\v2=0/\v3=[]/\o=0/\args=[]
  ·obtain⟨rfl,rfl,rfl,rfl,rfl⟩:=hm;have h:=c0i (m:=0) hlt hln hB w hG;rw[show dV 2 (0,0,[]) t n 0 []=(mO n&&(t==[]||mO t)) by simp[dV]];exact h
  ·rw[wT (b:=dV 2 (v1,v2,v3) t n o args) fun hh=>by
    simp only[dV,show ¬(2:Int)=1 by decide,if_false,if_true,aQ,beq_iff_eq,iZ,Prod.mk.injEq] at hh;exact hm ⟨hh.1.1.1.1.1,hh.1.1.1.1.2.1,hh.1.1.1.1.2.2,hh.1.1.1.2,hh.1.1.2⟩]
   exact pQ hB (by rintro⟨h1,h2,h3,-,-,h6,h7⟩;exact hm ⟨h1.symm,h2.symm,h3.symm,h6.symm,hnil _ h7⟩) w
 by_cases h3:k=3
 ·subst h3;have hB:∀w,eg 258 #[EV 3 (v1,v2,v3) t n o (.slice a args.length c)] w fun e w'=>e= .returned (EV 3 (0,0,[]) [] [] o (.slice a args.length c))/\Bl w w':=fun w=>rT 3 v1 v2 o v3 t n a args.length c w;by_cases hm:v1=0/\v2=0/\v3=[]/\t=[]/\n=[]
  ·obtain⟨rfl,rfl,rfl,rfl,rfl⟩:=hm;have h:=c0h hB w;rw[show dV 3 (0,0,[]) [] [] o args=(decide (1<=o/\o<=20)&&args.length==fJ o) by simp[dV]];exact h
  ·rw[wT (b:=dV 3 (v1,v2,v3) t n o args) fun hh=>by
    simp only[dV,show ¬(3:Int)=1 by decide,show ¬(3:Int)=2 by decide,if_false,if_true,aQ,beq_iff_eq,Prod.mk.injEq] at hh;exact hm ⟨hh.1.1.1.1.1,hh.1.1.1.1.2.1,hh.1.1.1.1.2.2,hh.1.1.1.2,hh.1.1.2⟩]
   exact pQ hB (by rintro⟨h1,h2,h3,h4,h5,-,-⟩;exact hm ⟨h1.symm,h2.symm,h3.symm,h4.symm,h5.symm⟩) w
 by_cases h4:k=4
 ·subst h4;have hB:∀w,eg 258 #[EV 4 (v1,v2,v3) t n o (.slice a args.length c)] w fun e w'=>e= .returned (EV 4 (0,0,[]) [] [] 0 (.slice a args.length c))/\Bl w w':=fun w=>rT 4 v1 v2 o v3 t n a args.length c w;by_cases hm:v1=0/\v2=0/\v3=[]/\t=[]/\n=[]/\o=0
  ·obtain⟨rfl,rfl,rfl,rfl,rfl,rfl⟩:=hm;have h:=c0g hB w;rw[show dV 4 (0,0,[]) [] [] 0 args=decide (0<args.length) by
    cases args with
    |nil=>simp[dV]
    |cons x r=>simp[dV]]
   exact h
  ·rw[wT (b:=dV 4 (v1,v2,v3) t n o args) fun hh=>by
    simp only[dV,show ¬(4:Int)=1 by decide,show ¬(4:Int)=2 by decide,show ¬(4:Int)=3 by decide,if_false,if_true,aQ,beq_iff_eq,Prod.mk.injEq] at hh;exact hm ⟨hh.1.1.1.1.1,hh.1.1.1.1.2.1,hh.1.1.1.1.2.2,hh.1.1.1.2,hh.1.1.2,hh.1.2⟩]
   exact pQ hB (by rintro⟨h1,h2,h3,h4,h5,h6,-⟩;exact hm ⟨h1.symm,h2.symm,h3.symm,h4.symm,h5.symm,h6.symm⟩) w
 by_cases h5:k=5
 ·subst h5;have hB:∀w,eg 258 #[EV 5 (v1,v2,v3) t n o (.slice a args.length c)] w fun e w'=>e= .returned (EV 5 (0,0,[]) [] n 0 (.slice a args.length c))/\Bl w w':=fun w=>rT 5 v1 v2 o v3 t n a args.length c w;by_cases hm:v1=0/\v2=0/\v3=[]/\t=[]/\o=0
  ·obtain⟨rfl,rfl,rfl,rfl,rfl⟩:=hm;rw[show dV 5 (0,0,[]) [] n 0 args=(gP.contains n&&(args.length==1||args.isEmpty&&n==gX)) by simp[dV]];cases hc:gP.contains n
   ·exact b6x hc hB w
   ·rw[rC]
    match args,hB with
    |[],hB=>
     by_cases hs:n=gX
     ·subst hs;have h:=b6v hc hB w;rw[show(([]:List Ex).length==1||([]:List Ex).isEmpty&&gX==gX)=true from rfl];exact h
     ·have hs':(n==gX)=false:=by simpa using hs
      have h:=b6t hc hs' hB w;rw[hs'];exact h
    |[x],hB=>exact b6w hc hB w
    |x::y::r,hB=>
     have h:=b6u (m:=r.length) hc hB w;rw[show((x::y::r).length==1||(x::y::r).isEmpty&&n==gX)=false by simp];exact h
  ·rw[wT (b:=dV 5 (v1,v2,v3) t n o args) fun hh=>by
    simp only[dV,show ¬(5:Int)=1 by decide,show ¬(5:Int)=2 by decide,show ¬(5:Int)=3 by decide,show ¬(5:Int)=4 by decide,if_false,if_true,aQ,beq_iff_eq,Prod.mk.injEq] at hh;exact hm ⟨hh.1.1.1.1.1,hh.1.1.1.1.2.1,hh.1.1.1.1.2.2,hh.1.1.1.2,hh.1.1.2⟩]
   exact pQ hB (by rintro⟨h1,h2,h3,h4,-,h6,-⟩;exact hm ⟨h1.symm,h2.symm,h3.symm,h4.symm,h6.symm⟩) w
 have hB:∀w,eg 258 #[EV k (v1,v2,v3) t n o (.slice a args.length c)] w fun e w'=>e= .returned (EV k (0,0,[]) [] [] 0 (.slice a args.length c))/\Bl w w':=fun w=>by
  have h:=rT k v1 v2 o v3 t n a args.length c w;rw[show a4e k (v1,v2,v3) t n o (.slice a args.length c)=EV k (0,0,[]) [] [] 0 (.slice a args.length c) by unfold a4e;rw[if_neg h1,if_neg h2,if_neg h3,if_neg h5]] at h;exact h
 rw[show dV k (v1,v2,v3) t n o args=false by unfold dV;rw[if_neg h1,if_neg h2,if_neg h3,if_neg h4,if_neg h5]];by_cases hm:v1=0/\v2=0/\v3=[]/\t=[]/\n=[]/\o=0
 ·obtain⟨rfl,rfl,rfl,rfl,rfl,rfl⟩:=hm;exact c0f ⟨h1,h2,h3,h4,h5⟩ hB w
 ·exact pQ hB (by rintro⟨h1,h2,h3,h4,h5,h6,-⟩;exact hm ⟨h1.symm,h2.symm,h3.symm,h4.symm,h5.symm,h6.symm⟩) w
end
section
theorem At8.bl{W W':World}{b o:Nat}{x:Ex}{sv:Value}(hb:Bl W W')(h:At8 W b o x sv):At8 W' b o x sv:=
 h.keep (hb.block b (by have:=bB _ _ h.1;simpa using this))
theorem a1o:∀(n:Nat) (x y:Ex),fC x<=n->n<=1000000->∀(W:World) (v u:Value),eO W x v->eO W y u->eg 32 #[v,u] W fun e w'=>e= .returned (.bool (kR x y))/\Bl W w'
 |0,x,_,h,_,_,_,_,_,_=>by have:=oM x;omega
 |n+1,x,y,hx,hn,W,v,u,hv,hu=>by
  obtain⟨sv,rfl,hL⟩:=hv;obtain⟨a,cap,rfl,hc⟩:=hL.shape;obtain⟨su,rfl,hM⟩:=hu;obtain⟨a2,cap2,rfl,hc2⟩:=hM.shape;have IH:=aB (a1o n);have HC:=aB hc;have HC2:=aB hc2;have hlen:x.args.length<=1000000:=(by have:=sG x;omega);have HP:=aB (show ∀y∈x.args,fC y<=n from fun y hy=>by have:=sH hy;omega);clear hc hL hx hc2 hM;obtain⟨k,⟨v1,v2,v3⟩,t,nm,o,args⟩:=x;obtain⟨k2,⟨u1,u2,u3⟩,t2,nm2,o2,args2⟩:=y;simp only[Ex.k,Ex.v,Ex.t,Ex.n,Ex.o,Ex.args] at *;by_cases hk:k=k2
  case neg=>
   have HE:Hid (kR (.mk k (v1,v2,v3) t nm o args) (.mk k2 (u1,u2,u3) t2 nm2 o2 args2)=false):=(by show _=_;simp[kR,hk]);have hb:(k==k2)=false:=(by simpa using hk);have hb':(k != k2)=true:=(by simpa using hk);clear hlen;go_enter func32,ntmps32;go_wp2;go_ret;exact⟨by rw[HE.o];rfl,((Bl.refl W).alloc _).alloc _⟩
  subst hk;by_cases hv1:v1=u1
  case neg=>
   have HE:Hid (kR (.mk k (v1,v2,v3) t nm o args) (.mk k (u1,u2,u3) t2 nm2 o2 args2)=false):=(by show _=_;simp[kR,hv1]);have hb:(v1==u1)=false:=(by simpa using hv1);have hb':(v1 != u1)=true:=(by simpa using hv1);clear hlen;go_enter func32,ntmps32;go_wp2;go_ret;exact⟨by rw[HE.o];rfl,((Bl.refl W).alloc _).alloc _⟩
  subst hv1;by_cases hv2:v2=u2
  case neg=>
   have HE:Hid (kR (.mk k (v1,v2,v3) t nm o args) (.mk k (v1,u2,u3) t2 nm2 o2 args2)=false):=(by show _=_;simp[kR,hv2]);have hb:(v2==u2)=false:=(by simpa using hv2);have hb':(v2 != u2)=true:=(by simpa using hv2);clear hlen;go_enter func32,ntmps32;go_wp2;go_ret;exact⟨by rw[HE.o];rfl,((Bl.refl W).alloc _).alloc _⟩
  subst hv2;by_cases hv3:v3=u3
  case neg=>
   have HE:Hid (kR (.mk k (v1,v2,v3) t nm o args) (.mk k (v1,v2,u3) t2 nm2 o2 args2)=false):=(by show _=_;simp[kR,hv3]);have hb:(v3==u3)=false:=(by simpa using hv3);have hb':(v3 != u3)=true:=(by simpa using hv3);clear hlen;go_enter func32,ntmps32;go_wp2;go_ret;exact⟨by rw[HE.o];rfl,((Bl.refl W).alloc _).alloc _⟩
  subst hv3;by_cases ht:t=t2
  case neg=>
   have HE:Hid (kR (.mk k (v1,v2,v3) t nm o args) (.mk k (v1,v2,v3) t2 nm2 o2 args2)=false):=(by show _=_;simp[kR,ht]);have hb:(t==t2)=false:=cI;have hb':(t != t2)=true:=cI;clear hlen;go_enter func32,ntmps32;go_wp2;go_ret;exact⟨by rw[HE.o];rfl,((Bl.refl W).alloc _).alloc _⟩
  subst ht;by_cases hnm:nm=nm2
  case neg=>
   have HE:Hid (kR (.mk k (v1,v2,v3) t nm o args) (.mk k (v1,v2,v3) t nm2 o2 args2)=false):=(by show _=_;simp[kR,hnm]);have hb:(nm==nm2)=false:=(by simpa using hnm);have hb':(nm != nm2)=true:=(by simpa using hnm);clear hlen;go_enter func32,ntmps32;go_wp2;go_ret;exact⟨by rw[HE.o];rfl,((Bl.refl W).alloc _).alloc _⟩
  subst hnm;by_cases ho:o=o2
  case neg=>
   have HE:Hid (kR (.mk k (v1,v2,v3) t nm o args) (.mk k (v1,v2,v3) t nm o2 args2)=false):=(by show _=_;simp[kR,ho]);have hb:(o==o2)=false:=(by simpa using ho);have hb':(o != o2)=true:=(by simpa using ho);clear hlen;go_enter func32,ntmps32;go_wp2;go_ret;exact⟨by rw[HE.o];rfl,((Bl.refl W).alloc _).alloc _⟩
  subst ho;by_cases hl:args.length=args2.length
  case neg=>
   have HE:Hid (kR (.mk k (v1,v2,v3) t nm o args) (.mk k (v1,v2,v3) t nm o args2)=false):=by
    show _=_;cases hs:kR (.mk k (v1,v2,v3) t nm o args) (.mk k (v1,v2,v3) t nm o args2)
    ·rfl
    ·simp only[kR,aQ] at hs;exact absurd (a1x hs.2) hl
   have hl':¬(args.length:Int)=(args2.length:Int):=aE;have hb:((args.length:Int)==(args2.length:Int))=false:=av;have hb':((args.length:Int) != (args2.length:Int))=true:=av;clear hlen;go_enter func32,ntmps32;go_wp2;go_ret;exact⟨by rw[HE.o];rfl,((Bl.refl W).alloc _).alloc _⟩
  have HLE:=aB hl;have HS:Hid (kR (.mk k (v1,v2,v3) t nm o args) (.mk k (v1,v2,v3) t nm o args2)=lQ args args2):=(by show _=_;simp[kR]);rw[<-hl];clear hl;go_enter func32,ntmps32;go_wp2_with fail;go_loopw [5] (fun i wr=>∃j:Nat,j<=args.length/\i= .int .i64 (j:Int)/\Hid (lQ args args2=lQ (args.drop j) (args2.drop j))/\Bl W wr/\
   Hid (wr.heap[W.heap.size]?=some (.cells #[.int .i64 k,.int .i64 v1,.int .i64 v2,S v3,S t,S nm,.int .i64 o,.slice a args.length cap] 38 (0,0)))/\
   Hid (wr.heap[W.heap.size+1]?=some (.cells #[.int .i64 k,.int .i64 v1,.int .i64 v2,S v3,S t,S nm,.int .i64 o,.slice a2 args.length cap2] 38 (0,0)))) (fun i _=>args.length-(intOf i).toNat)
  case atStart=>exact⟨0,dL _,rfl,by simp[Hid],((Bl.refl W).alloc _).alloc _,(aW _ _ aa).trans (aN _ _),aV _ _ aa⟩
  case round=>
   obtain⟨j,hj,rfl,HD,hB,HX,HX2⟩:=hrel;obtain⟨⟨-,-,-,-,-,-,-,c7⟩,-⟩:=eight HX.o;obtain⟨⟨-,-,-,-,-,-,-,d7⟩,-⟩:=eight HX2.o;by_cases hlt:j<args.length
   ·obtain⟨b,off,s,rfl,h8,hr⟩:=HC.o j hlt;obtain⟨b2,off2,s2,rfl,h82,hr2⟩:=HC2.o j (HLE.o▸hlt);have HB:=aB hB;have HY:=aB (HP.o _ (dS hlt));have HDj:=aB (a6w hlt (HLE.o▸hlt));have HR:=aB (hr.bl hB);have HR2:=aB (hr2.bl hB);obtain⟨e0,e1,e2,e3,e4,e5,e6,e7⟩:=h8.bl hB;obtain⟨f0,f1,f2,f3,f4,f5,f6,f7⟩:=h82.bl hB;clear h8 hr hB h82 hr2;generalize hy:args[j]=y at *;clear hy;generalize hz:args2[j]'(HLE.o▸hlt)=z at *;clear hz;obtain⟨k',⟨v1',v2',v3'⟩,t',nm',o',args'⟩:=y;obtain⟨k3,⟨w1',w2',w3'⟩,t3,nm3,o3,args3⟩:=z;simp only[Ex.k,Ex.v,Ex.t,Ex.n,Ex.o] at e0 e1 e2 e3 e4 e5 e6 f0 f1 f2 f3 f4 f5 f6;have hRE:eO wr (.mk k' (v1',v2',v3') t' nm' o' args') (EV k' (v1',v2',v3') t' nm' o' s):=⟨s,rfl,HR.o⟩
    have hRE2:eO wr (.mk k3 (w1',w2',w3') t3 nm3 o3 args3) (EV k3 (w1',w2',w3') t3 nm3 o3 s2):=⟨s2,rfl,HR2.o⟩
    have HRE:=aB (bT hRE hRE2);clear hRE hRE2;go_wp2_with fail
    go_still_tail 10,af
    have hbd:Bl wr wr.drew:=(Bl.refl wr).drew;go_wp2_with fail
    (with_reducible refine(IH.o _ _ HY.o aE _ _ _ (HRE.o.1.bl hbd) (HRE.o.2.bl hbd)).mono ?_)
    rintro e w1 ⟨rfl,hb1⟩;have hb2:=hbd.call hb1;have HB1:=aB (HB.o.call hb2);have HX1:=aB ((hb2.block _ (aC.1 HX.o).1).trans HX.o);have HX3:=aB ((hb2.block _ (aC.1 HX2.o).1).trans HX2.o);clear hb1 hb2 hbd e0 e1 e2 e3 e4 e5 e6 e7 c7 d7 f0 f1 f2 f3 f4 f5 f6 f7;have hj1:(j:Int)<(args.length:Int):=aE;cases hs:kR (.mk k' (v1',v2',v3') t' nm' o' args') (.mk k3 (w1',w2',w3') t3 nm3 o3 args3)
    ·have HF:=aB hs;clear hs;go_wp2;go_ret;exact⟨by rw[HS.o,HD.o,HDj.o,HF.o];rfl,HB1.o⟩
    ·have HF:=aB hs;clear hs;go_wp2;go_roundw
     case rel=>exact⟨j+1,by omega,by go_num,by show _=_;rw[HD.o,HDj.o,HF.o];rfl,HB1.o,HX1.o,HX3.o⟩
     case measure=>simp[intOf];omega
   ·obtain rfl:j=args.length:=by omega
    have HE:Hid (kR (.mk k (v1,v2,v3) t nm o args) (.mk k (v1,v2,v3) t nm o args2)=true):=by
     show _=_;rw[HS.o,HD.o,dO,HLE.o,dO];rfl
    go_wp2;go_ret;exact⟨by rw[HE.o];rfl,hB⟩
end
section
attribute [local go_sem] nC
abbrev QE:=Ex×Option Addr×Nat
abbrev QE.sv(q:QE):Value:= .slice q.2.1 q.1.args.length q.2.2
abbrev QE.v(q:QE):Value:=EV q.1.k q.1.v q.1.t q.1.n q.1.o q.sv
def qz:QE:=(zeroE,none,0)
def c7c(n₀:Nat)(W:World)(sv:Value)(zs:List QE):Prop:=∃a cap,sv= .slice a zs.length cap/\∀j,j<zs.length->∃b off,a=some ⟨b,off,none⟩/\b<n₀/\At8 W b (off+j * 8) (zs[j]?.getD qz).1 (zs[j]?.getD qz).sv
theorem At8.below{n₀:Nat}{A B:World}(h:Below n₀ A B){b o:Nat}(hb:b<n₀){x:Ex}{sv:Value}(k:At8 A b o x sv):At8 B b o x sv:=k.keep (h.block b hb)
theorem c7c.below{n₀:Nat}{A B:World}(h:Below n₀ A B){sv:Value}{zs:List QE}(k:c7c n₀ A sv zs):c7c n₀ B sv zs:=by
 obtain⟨a,cap,e,hc⟩:=k;refine⟨a,cap,e,fun j hj=>?_⟩;obtain⟨b,off,e2,hb,h8⟩:=hc j hj;exact⟨b,off,e2,hb,h8.below h hb⟩
theorem c3q{W:World}{sv:Value}{l:List Ex}(h:gU W sv l):∃zs:List QE,zs.map (·.1)=l/\c7c W.heap.size W sv zs/\∀q∈zs,gU W q.sv q.1.args:=by
 cases h with
 |mk a cap l s h1 h2=>
  have hs:∀j,∃p:Option Addr×Nat,∀x,l[j]?=some x->s j= .slice p.1 x.args.length p.2:=fun j=>by
   cases hx:l[j]? with
   |none=>exact⟨(none,0),fun x h=>by cases h⟩
   |some x=>
    obtain⟨a',c',e,-⟩:=(h2 j x hx).shape;exact⟨(a',c'),fun y hy=>by injection hy with hy;subst hy;exact e⟩
  obtain⟨F,hF⟩:=Classical.axiomOfChoice hs;have hg:∀j,j<l.length->(((iU l.length).map fun j=>((l[j]?.getD zeroE,F j):QE))[j]?.getD qz)=((l[j]?.getD zeroE,F j):QE):=fun j hj=>(by simp[hj]);refine⟨(iU l.length).map fun j=>(l[j]?.getD zeroE,F j),?_,⟨a,cap,by simp,fun j hj=>?_⟩,fun q hq=>?_⟩
  ·apply kX
   ·simp
   ·intro i h1 h2;have:i<l.length:=h2;simp[this]
  ·have hj':j<l.length:=by simpa using hj
   rw[hg j hj'];have hx:l[j]?=some l[j]:=aP hj';obtain⟨b,off,e,h8⟩:=h1 j _ hx;have hsj:=hF j _ hx;refine⟨b,off,e,by have:=bB _ _ h8.1;simpa using this,?_⟩;rw[hx,oQ];rw[hsj] at h8;exact h8
  ·obtain⟨j,hj,rfl⟩:=List.mem_map.1 hq;have hj':j<l.length:=cD;have hx:l[j]?=some l[j]:=aP hj';have h:=h2 j _ hx;rw[hF j _ hx] at h;rw[hx,oQ];exact h
theorem a1p(k:Nat):upto (fun j=>j) k=iU k:=by simp[upto]
theorem a5l{k n:Nat}(h:k<=n):iU k<+:iU n:=by
 refine⟨(iU n).drop k,?_⟩;have:iU k=(iU n).take k:=by
  apply kX
  ·simp[h]
  ·intro i h1 h2;simp
 rw[this,gF]
set_option maxRecDepth 100000 in
theorem a7i(F:Fence)(n:Nat)(h7:F.fn 264)(hro:F.round=none)(hn:1<=n)(l Bs n₀ b off len cap:Nat)(zs:List QE)(hreach:len<=1000000)(hb:0<len->b<n₀)(J Jx:List Nat->World->Prop)(hJ:∀pre W o,J pre W->J pre (W.alloc o))
  (hY:∀pre x W,J pre W->pre.length<len->YieldAt F (n-1) prog l #[(zs[x]?.getD qz).v] W fun e W'=>
   (e= .returned (.bool true)/\J (pre++[x]) W'/\Below n₀ W W')\/(e= .returned (.bool false)/\Jx (pre++[x]) W'))
  (W:World) (hn₀:n₀<=W.heap.size) (hBs:W.cell? ⟨Bs,0,none⟩=some (.slice (some ⟨b,off,none⟩) len cap)) (hc:∀j,j<len->At8 W b (off+j * 8) (zs[j]?.getD qz).1 (zs[j]?.getD qz).sv) (h0:J [] W):
  CallsIn F n prog 264 #[.func (.yield l) #[] #[],.pointer (some ⟨Bs,0,none⟩)] W fun e W'=>(∃v,e= .returned v)/\
   ((∃ys,ys=upto (fun j=>j) len/\J ys W')\/(∃pre,(∃k,k<=len/\pre=upto (fun j=>j) k)/\Jx pre W')):=by
 refine callsIn_of_wp func264 rfl h7 ?_ hro;simp only[ntmps264,gG,aX,bL,Nat.reduceAdd,Nat.reduceSub,eX,eU,gH,fD,cB,bE]
 gi_wp2
 gi_loopw [7] (fun i wr=>∃k:Nat,k<=len/\i= .int .i64 k/\J (upto (fun j=>j) k) wr/\Hid (Below n₀ W wr))
  (fun i _=>len-(intOf i).toNat)
 case atStart=>exact⟨0,dL _,rfl,h0,bS _ _⟩
 case round=>
  obtain⟨k,hk,rfl,hJs,HN⟩:=hrel;by_cases hlt:k<len
  ·have HY:=aB (fun o=>hY _ k (wr.alloc o) (hJ _ _ _ hJs) (by rw[zN];exact hlt));have hzw:=HN.o.size;obtain⟨e0,e1,e2,e3,e4,e5,e6,e7⟩:=(hc k hlt).below HN.o (hb aE);generalize hz:zs[k]?.getD qz=z at *;have HZ:=aB hz;clear hz;obtain⟨⟨zk,⟨z1,z2,z3⟩,zt,zn,zo,za⟩,ad,ca⟩:=z;simp only[Ex.k,Ex.v,Ex.t,Ex.n,Ex.o] at e0 e1 e2 e3 e4 e5 e6 e7;dsimp only[QE.sv,Ex.args] at e7;obtain⟨fn,tmps,assign,body,hy,hR⟩:=HY.o (.cells #[.int .i64 zk,.int .i64 z1,.int .i64 z2,S z3,S zt,S zn,.int .i64 zo,.slice ad za.length ca] 38);dsimp only[QE.v,QE.sv,Ex.k,Ex.v,Ex.t,Ex.n,Ex.o,Ex.args] at hy
   gi_wp2
   refine hR.mono ?_;rintro e W3 (⟨rfl,hJ3,hk3⟩|⟨rfl,hJx3⟩)
   ·have HK3:=aB hk3;clear hk3
    gi_wp2
    go_roundw
    case rel=>exact⟨k+1,by omega,by simp,by rw[wH];exact hJ3,HN.o.trans (((bS _ wr).alloc aE _).trans HK3.o)⟩
    case measure=>simp[intOf];omega
   ·gi_wp2
    refine bodyPost_ret (results_none rfl _ _ _) rfl ?_;exact⟨⟨_,rfl⟩,.inr ⟨_,⟨k+1,by omega,by rw[wH]⟩,hJx3⟩⟩
  ·obtain rfl:k=len:=by omega
   gi_wp2
   go_end0;exact⟨⟨_,rfl⟩,.inl ⟨_,rfl,hJs⟩⟩
set_option maxRecDepth 100000 in
theorem zM(a:Option Addr)(cap:Nat)(F:Fence)(n:Nat)(h7:F.fn 264)(hro:F.round=none)(l Bs:Nat)(J:List Nat->World->Prop)(W:World)(hBs:W.cell? ⟨Bs,0,none⟩=some (.slice a 0 cap))(h0:J [] W):
  CallsIn F n prog 264 #[.func (.yield l) #[] #[],.pointer (some ⟨Bs,0,none⟩)] W fun e W'=>(∃v,e= .returned v)/\J [] W':=by
 refine callsIn_of_wp func264 rfl h7 ?_ hro;simp only[ntmps264,gG,aX,bL,Nat.reduceAdd,Nat.reduceSub,eX,eU,gH,fD,cB,bE]
 gi_wp2
 gi_loopw [7] (fun i wr=>i= .int .i64 0/\J [] wr) (fun _ _=>0)
 case atStart=>exact⟨rfl,h0⟩
 case round=>
  obtain⟨rfl,hJs⟩:=hrel
  gi_wp2
  go_end0;exact⟨⟨_,rfl⟩,hJs⟩
set_option maxRecDepth 100000 in
theorem b1a(F:Fence)(n:Nat)(h5:F.fn 217)(hro:F.round=none)(a:Option Addr)(len cap:Nat)(w:World):
  CallsIn F n prog 217 #[.slice a len cap] w fun e w'=>e= .returned (.func (.func 264) #[] #[.pointer (some ⟨w.heap.size,0,none⟩)])/\w'=w.alloc (.cells #[.slice a len cap] 36):=by
 refine callsIn_of_wp func217 rfl h5 ?_ hro;simp only[ntmps217,gG,aX,bL,Nat.reduceAdd,Nat.reduceSub,eX,eU,gH,fD,cB,bE]
 gi_wp2
 go_ret;exact⟨rfl,rfl⟩
theorem a2y(F:Fence)(n:Nat)(h7:F.fn 264)(hro:F.round=none)(hn:1<=n)(Bs n₀:Nat)(sv:Value)(zs:List QE)(hreach:zs.length<=1000000)(w:World)(hBs:Bs<w.heap.size)(hn₀:n₀<=w.heap.size)
  (hc:w.cell? ⟨Bs,0,none⟩=some sv) (hI:c7c n₀ w sv zs):
  SeqStopsK F n prog 264 #[.pointer (some ⟨Bs,0,none⟩)] (fun x:Nat=> #[(zs[x]?.getD qz).v]) (Below n₀) (fun ys=>ys=iU zs.length) (fun pre=>pre<+:iU zs.length) zs.length w:=fun l J Jx W hW hJ _ hY h0=>by
 have hc':=(hW.cell (p:=⟨Bs,0,none⟩) hBs).trans hc;obtain⟨a,cap,rfl,hcs⟩:=hI.below (hW.mono hn₀);by_cases hz:zs=[]
 ·subst hz;exact(zM a cap F n h7 hro l Bs J W hc' h0).mono fun e W' ⟨he,hj⟩=>⟨he,.inl ⟨_,rfl,hj⟩⟩
 ·have hpos:0<zs.length:=by cases zs with |nil=>exact absurd rfl hz|cons _ _=>simp
  obtain⟨b,off,rfl,hb,-⟩:=hcs 0 hpos;have hcs':∀j,j<zs.length->At8 W b (off+j * 8) (zs[j]?.getD qz).1 (zs[j]?.getD qz).sv:=fun j hj=>by
   obtain⟨b',off',e,_,c⟩:=hcs j hj;injection e with e;injection e with e1 e2 _;subst e1;subst e2;exact c
  refine(a7i F n h7 hro hn l Bs n₀ b off zs.length cap zs hreach (fun _=>hb) J Jx (fun pre W1 o h=>hJ pre W1 _ none h (World.grownBy_alloc _ _ none) (fun r e=>by cases e)) hY W (jH hn₀ hW.size) hc' hcs' h0).mono ?_;rintro e W' ⟨he,⟨ys,rfl,hj⟩|⟨pre,⟨k,hk,rfl⟩,hj⟩⟩
  ·exact⟨he,.inl ⟨_,a1p _,hj⟩⟩
  ·exact⟨he,.inr ⟨_,by rw[a1p];exact a5l hk,hj⟩⟩
end
section
attribute [local go_sem] nC
inductive Lens:Ex->Prop where
 |mk (k:Int) (v:Int×Int×List UInt8) (t n:List UInt8) (o:Int) (args:List Ex) (ht:t.length<=9223372036854775807) (hn:n.length<=9223372036854775807) (ha:∀y,y∈args->Lens y):Lens (.mk k v t n o args)
def ckN(x:Ex):Int:=if eH x=true then 0 else 2
theorem a7f(k:Int)(v:Int×Int×List UInt8)(t n:List UInt8)(o:Int)(args:List Ex):eH (.mk k v t n o args)=(dV k v t n o args&&args.all eH):=by
 simp only[eH,vY];rfl
theorem a6i{k v1 v2 o:Int}{v3 t n:List UInt8}{a:Option Addr}{args:List Ex}{c:Nat}(hR:dV k (v1,v2,v3) t n o args=false)(hlt:t.length<=9223372036854775807)(hln:n.length<=9223372036854775807)(w:World)(hG:nD w):
  eg 155 #[EV k (v1,v2,v3) t n o (.slice a args.length c)] w fun e w'=>e= .returned (.int .i64 2)/\Bl w w':=by
 have HR:Hid (∀w,nD w->eg 216 #[EV k (v1,v2,v3) t n o (.slice a args.length c)] w fun e w'=>e= .returned (.bool false)/\Bl w w'):=fun w hG=>by
  have h:=a2m k v1 v2 o v3 t n a args c hlt hln w hG;rw[hR] at h;exact h
 have HG:=aB hG;clear hG hR;generalize args.length=m at *;have HB0:=aB (((Bl.refl w).alloc (.cells #[.int .i64 k,.int .i64 v1,.int .i64 v2,S v3,S t,S n,.int .i64 o,.slice a m c] 38)).alloc (.cells #[.int .i64 0] 47));have hE0:=aV (w.alloc (.cells #[.int .i64 k,.int .i64 v1,.int .i64 v2,S v3,S t,S n,.int .i64 o,.slice a m c] 38)) (.cells #[.int .i64 0] 47) (k:=w.heap.size+1) aa;go_enter func155,ntmps155;go_wp2_with fail;refine(HR.o _ (HG.o.bl HB0.o)).mono ?_;rintro e w1 ⟨rfl,hb1⟩;have hE1:=(hb1.block _ aa).trans hE0;have c0:=cK hE1;have z0:=aJ hE1 0;have HB1:=aB (HB0.o.call hb1);go_wp2;have q0:=cK (x:= .int .i64 2) (lN hE1 0 (.int .i64 2));exact bodyPost_ret (v:= .int .i64 2) (by simp[results,results155,go_sem,q0]) rfl ⟨rfl,HB1.o.set (p:=⟨w.heap.size+1,0,none⟩) (by show w.heap.size<=w.heap.size+1;omega) _⟩
theorem b0s{W A:World}{D:Nat}{a:Act}{z:Int}(hD:W.heap.size+2<=D)(ht:a.tmps[2]?=some (.pointer (some ⟨W.heap.size+1,0,none⟩)))(hd:a.defers=[{target:= .collected D,args:= #[]}])
  (hK:A.heap[D]?=some (.deferred (some []))) (h1:Boxed A (W.heap.size+1) 47 (.int .i64 z)) (hB:Below W.heap.size W A):
  bodyPostM Fence.wide 5 prog Tryz.f155 (fun e w'=>e= .returned (.int .i64 z)/\Bl W w') .ret a A:=by
 obtain⟨tm,df⟩:=a;simp only at ht hd;subst hd;refine⟨by simp,.inl ⟨_,_,rfl,run_takeDeferred hK,?_⟩⟩;have hgp:=grownBy_putObj' A D (.deferred none);have c:=(h1.kept hgp ak).cell;exact⟨.int .i64 z,by simp[results,results155,go_sem,ht,c],rfl,hB.grown hgp hB.size (fun k e=>by cases e;omega)⟩
theorem yO:∀(n:Nat) (x:Ex),fC x<=n->n<=1000000->Lens x->∀(W:World) (v:Value),eO W x v->nD W->eg 155 #[v] W fun e w'=>e= .returned (.int .i64 (ckN x))/\Bl W w'
 |0,x,h,_,_,_,_,_,_=>by have:=oM x;omega
 |N+1,x,hx,hN,hL,W,v,hv,hG=>by
  obtain⟨sv,rfl,hR⟩:=hv;obtain⟨zs,hzs,hE,hRq⟩:=c3q hR;obtain⟨a,cap,rfl,-⟩:=id hE;have IH:Hid (∀(j:Nat) (W':World),Bl W W'->eg 155 #[(zs[j]?.getD qz).v] W' fun e w'=>e= .returned (.int .i64 (ckN (zs[j]?.getD qz).1))/\Bl W' w'):=fun j W' hb=>by
   cases hq:zs[j]? with
   |none=>
    have hz:ckN qz.1=2:=ae;rw[Option.getD_none,hz];exact a6i (args:=[]) ae (by simp[qz,zeroE,Ex.t]) (by simp[qz,zeroE,Ex.n]) W' (hG.bl hb)
   |some q=>
    rw[oQ];have hm:=dJ hq;have hma:q.1∈x.args:=(by rw[<-hzs];exact List.mem_map_of_mem hm);have hLq:Lens q.1:=by cases hL with |mk _ _ _ _ _ _ _ _ ha=>exact ha _ hma
    exact yO N q.1 (by have:=sH hma;omega) aE hLq W' _ ⟨_,rfl,(hRq q hm).bl hb⟩ (hG.bl hb)
  obtain⟨k,⟨v1,v2,v3⟩,t,n,o,args⟩:=x
  replace hzs:zs.map (·.1)=args:=hzs
  have hlen:args.length=zs.length:=(by rw[<-hzs];simp);have hfew:zs.length<=1000000:=(by have:=sG (.mk k (v1,v2,v3) t n o args);rw[<-hlen];show args.length<=_;have h2:(Ex.mk k (v1,v2,v3) t n o args).args.length=args.length:=rfl;omega);obtain⟨hlt,hln⟩:t.length<=9223372036854775807/\n.length<=9223372036854775807:=(by cases hL with |mk _ _ _ _ _ _ h1 h2 _=>exact⟨h1,h2⟩);clear hL hR hRq hx;simp only[Ex.k,Ex.v,Ex.t,Ex.n,Ex.o];cases hr:dV k (v1,v2,v3) t n o args
  ·have e:ckN (.mk k (v1,v2,v3) t n o args)=2:=by unfold ckN;rw[a7f,hr];rfl
   rw[e,<-hlen];exact a6i hr hlt hln W hG
  have HCK:Hid (ckN (.mk k (v1,v2,v3) t n o args)=if zs.all (fun q=>eH q.1) then 0 else 2):=by
   show _=_;unfold ckN;rw[a7f,hr,rC,<-hzs,List.all_map];rfl
  obtain⟨z,HZ⟩:∃z,Hid (ckN (.mk k (v1,v2,v3) t n o args)=z):=⟨_,rfl⟩
  rw[HZ.o];have HR:Hid (∀w,nD w->eg 216 #[EV k (v1,v2,v3) t n o (.slice a zs.length cap)] w fun e w'=>e= .returned (.bool true)/\Bl w w'):=fun w hG=>by
   have h:=a2m k v1 v2 o v3 t n a args cap hlt hln w hG;rw[hr,hlen] at h;exact h
  have HG:=aB hG;have HE:=aB hE;have HFEW:=aB hfew;have HB0:=aB (((Bl.refl W).alloc (.cells #[.int .i64 k,.int .i64 v1,.int .i64 v2,S v3,S t,S n,.int .i64 o,.slice a zs.length cap] 38)).alloc (.cells #[.int .i64 0] 47));have hE0:=aV (W.alloc (.cells #[.int .i64 k,.int .i64 v1,.int .i64 v2,S v3,S t,S n,.int .i64 o,.slice a zs.length cap] 38)) (.cells #[.int .i64 0] 47) (k:=W.heap.size+1) aa;have hX0:=(aW (W.alloc (.cells #[.int .i64 k,.int .i64 v1,.int .i64 v2,S v3,S t,S n,.int .i64 o,.slice a zs.length cap] 38)) (.cells #[.int .i64 0] 47) aa).trans (aN W _);clear hG hE hfew hr hlen hzs hlt hln;refine(callsIn_wide (n:=5)).1 ?_;refine callsIn_of_wp_marks func155 rfl trivial ?_ rfl;simp only[ntmps155,gG,aX,bL,Nat.reduceAdd,Nat.reduceSub,eX,eU,gH,fD,cB,bE]
  gi_wp2_with fail
  refine⟨trivial,?_⟩;refine(callsIn_wide.2 (HR.o _ (HG.o.bl HB0.o))).mono ?_;rintro e w1 ⟨rfl,hb1⟩;have HB1:=aB (HB0.o.call hb1);have HE1:=aB ((hb1.block _ aa).trans hE0);have hX1:=(hb1.block W.heap.size ak).trans hX0;have hlw:=(aC.1 HE1.o).1;obtain⟨⟨e0,e1,e2,e3,e4,e5,e6,e7⟩,-⟩:=eight hX1;clear hb1 hE0 hX0
  gi_wp2_with fail
  refine⟨trivial,?_⟩;refine(b1a Fence.wide 4 trivial rfl _ _ _ _).mono ?_;rintro e w' ⟨rfl,rfl⟩
  gi_wp2_with fail
  have bR:Boxed (w1.alloc (.cells #[.slice a zs.length cap] 36)) (W.heap.size+1) 47 (.int .i64 0):=Boxed.alloc (show Boxed w1 _ _ _ from HE1.o) _;have bN:=Boxed.new w1 36 (.slice a zs.length cap);have hB2:Below W.heap.size W (w1.alloc (.cells #[.slice a zs.length cap] 36)):=HB1.o.alloc _;have hsz:(w1.alloc (.cells #[.slice a zs.length cap] 36)).heap.size=w1.heap.size+1:=aa;clear e0 e1 e2 e3 e4 e5 e6 e7 hX1 HE1;obtain⟨W0,hW0⟩:∃W0,w1.alloc (.cells #[.slice a zs.length cap] 36)=W0:=⟨_,rfl⟩
  rw[hW0] at bR bN hB2 hsz⊢;clear hW0;refine wpIn_rangeFunc_ownH rfl aE (gf:=264) (lb:= #[.pointer (some ⟨w1.heap.size,0,none⟩)]) rfl trivial (enters_of func264 af rfl)
   (a2y Fence.wide (5-1) trivial rfl aE w1.heap.size W.heap.size _ zs HFEW.o W0 aE aE bN.cell (HE.o.below hB2)) belowK_t (belowK_b aE) (bS _ _) (fun _=>rfl)
   (fun pre A=>Boxed A (W.heap.size+1) 47 (.int .i64 0)/\Below W.heap.size W A/\∀j∈pre,eH (zs[j]?.getD qz).1=true)
   (fun c pre A=>c= .ret/\Boxed A (W.heap.size+1) 47 (.int .i64 2)/\Below W.heap.size W A/\∃j∈pre,eH (zs[j]?.getD qz).1=false)
   (fun s A B row hs hg hr=>⟨boxed_own (W.heap.size+1) 47 (fun(_:Unit)=>Value.int .i64 0) () A B row hs.1 hg (fun r e=>(hr r e).2),ownFrom_below (β:=Unit) (aH _) aE () A B row hs.2.1 hg hr,hs.2.2⟩)
   (fun c s A B row hs hg hr=>⟨hs.1,boxed_own (W.heap.size+1) 47 (fun(_:Unit)=>Value.int .i64 2) () A B row hs.2.1 hg (fun r e=>(hr r e).2),ownFrom_below (β:=Unit) (aH _) aE () A B row hs.2.2.1 hg hr,hs.2.2.2⟩)
   ⟨bR,hB2,fun j hj=>by cases hj⟩
   (fun j a' A=>∃Bx,A.heap[Bx]?=some (.cells #[.int .i64 (zs[j]?.getD qz).1.k,.int .i64 (zs[j]?.getD qz).1.v.1,.int .i64 (zs[j]?.getD qz).1.v.2.1,S (zs[j]?.getD qz).1.v.2.2,S (zs[j]?.getD qz).1.t,S (zs[j]?.getD qz).1.n,.int .i64 (zs[j]?.getD qz).1.o,(zs[j]?.getD qz).sv] 38 (0,0))/\
    a'={tmps:= #[EV k (v1,v2,v3) t n o (.slice a zs.length cap),.pointer (some ⟨W.heap.size,0,none⟩),.pointer (some ⟨W.heap.size+1,0,none⟩),.pointer (some ⟨Bx,0,none⟩),undef,EV k (v1,v2,v3) t n o (.slice a zs.length cap),.bool true,.bool false,.pointer (some ⟨W.heap.size,7,none⟩),.slice a zs.length cap,.func (.func 264) #[] #[.pointer (some ⟨w1.heap.size,0,none⟩)],(zs[j]?.getD qz).v,undef,undef,undef,undef,undef],defers:=[]})
   (fun j a' _ A B row hs hg hr=>by
    obtain⟨Bx,h1,h2⟩:=hs;refine⟨Bx,(hg.block Bx (aC.1 h1).1 (fun e=>?_)).trans h1,h2⟩;obtain⟨-,o,ho,hc⟩:=hr Bx e.symm;rw[h1] at ho;cases ho;cases hc)
   ?assign ?body ?done ?stop
  case assign=>
   rintro l pre j A K ⟨hb,hB,hp⟩ hK
   revert hK
   generalize zs[j]?.getD qz=q;obtain⟨⟨xk,⟨x1,x2,x3⟩,xt,xn,xo,xa⟩,ad,ca⟩:=q;dsimp only[QE.v,QE.sv,Ex.k,Ex.v,Ex.t,Ex.n,Ex.o,Ex.args];intro hK
   gi_wp2
   exact hK _ _ ((KeepsOthers.alloc _ _).from _) ((bS _ A).alloc hB.size _) ⟨hb.alloc _,hB.alloc hB.size _,hp⟩ ⟨A.heap.size,aN A _,rfl⟩
  case body=>
   rintro l pre j a' A hl ⟨r,hr⟩ ⟨hb,hB,hp⟩ ⟨Bx,hX,rfl⟩ _;have HI:=aB (IH.o j A hB);have HPj:Hid (ckN (zs[j]?.getD qz).1=if eH (zs[j]?.getD qz).1=true then 0 else 2):=rfl;have HN1:Hid (eH (zs[j]?.getD qz).1=true->∀i∈pre++[j],eH (zs[i]?.getD qz).1=true):=fun h i hi=>by
    rcases iX.1 hi with hi|hi
    ·exact hp i hi
    ·obtain rfl:=gQ.1 hi;exact h
   have HN2:Hid (eH (zs[j]?.getD qz).1=false->∃i∈pre++[j],eH (zs[i]?.getD qz).1=false):=fun h=>⟨j,by simp,h⟩
   clear hp;generalize zs[j]?.getD qz=q at *;obtain⟨⟨xk,⟨x1,x2,x3⟩,xt,xn,xo,xa⟩,ad,ca⟩:=q;dsimp only[QE.v,QE.sv,Ex.k,Ex.v,Ex.t,Ex.n,Ex.o,Ex.args] at hX HI⊢;obtain⟨⟨e0,e1,e2,e3,e4,e5,e6,e7⟩,-⟩:=eight hX;clear hX;have hlr:=hb.lt;cases hc:eH (.mk xk (x1,x2,x3) xt xn xo xa)
   ·have HC:=aB (show ckN (.mk xk (x1,x2,x3) xt xn xo xa)=2 from by unfold ckN;rw[hc];rfl);have HN:=aB (HN2.o hc);clear hc HN1 HN2 HPj
    gi_wp2_with fail
    refine⟨trivial,?_⟩;refine(CallsIn.inRound l (callsIn_wide.2 HI.o)).mono ?_;rintro e A2 ⟨rfl,hb2⟩;rw[HC.o];have hbx2:Boxed A2 (W.heap.size+1) 47 (.int .i64 0):=(hb2.block _ hlr).trans hb;have c0:=hbx2.cell;have z0:=aJ (show A2.heap[W.heap.size+1]?=_ from hbx2) 0;have HH:=aB (bT hb2 (bT hB hbx2));clear hb2 hB hbx2 hb e0 e1 e2 e3 e4 e5 e6 e7
    gi_wp2
    exact⟨((KeepsOthers.of_bl HH.o.1).trans (KeepsOthers.setCell _ _ _)).from _,rfl,HH.o.2.2.set _,(HH.o.2.1.trans (HH.o.1.mono HH.o.2.1.size)).setCell (p:=⟨W.heap.size+1,0,none⟩) eW _,HN.o⟩
   ·have HC:=aB (show ckN (.mk xk (x1,x2,x3) xt xn xo xa)=0 from by unfold ckN;rw[hc];rfl);have HN:=aB (HN1.o hc);clear hc HN1 HN2 HPj
    gi_wp2_with fail
    refine⟨trivial,?_⟩;refine(CallsIn.inRound l (callsIn_wide.2 HI.o)).mono ?_;rintro e A2 ⟨rfl,hb2⟩;rw[HC.o];have HH:=aB (bT hb2 (bT hB (show Boxed A2 (W.heap.size+1) 47 (.int .i64 0) from(hb2.block _ hlr).trans hb)));clear hb2 hB hb e0 e1 e2 e3 e4 e5 e6 e7
    gi_wp2
    exact⟨(KeepsOthers.of_bl HH.o.1).from _,HH.o.1.mono HH.o.2.1.size,HH.o.2.2,HH.o.2.1.trans (HH.o.1.mono HH.o.2.1.size),HN.o⟩
  case done=>
   rintro D ys A hD rfl ⟨hb,hB,hp⟩ hK;have HC:=aB (show ckN (.mk k (v1,v2,v3) t n o args)=0 from by
    rw[HCK.o,if_pos];rw[jA];intro q hq;obtain⟨i,hi,rfl⟩:=List.getElem_of_mem hq;have:=hp i (by simpa using hi);rw[aP hi] at this;exact this)
   have HZ0:=aB (show z=0 from HZ.o.symm.trans HC.o);have c0:=hb.cell;have z0:=aJ (show A.heap[W.heap.size+1]?=_ from hb) 0;have hDD:W.heap.size+2<=D:=aE;have HH:=aB (bT ((aM A ⟨W.heap.size+1,0,none⟩ (.int .i64 0) D (by show D≠W.heap.size+1;omega)).trans hK) (bT hB (hb.set (.int .i64 0))));clear hb hB hK hp
   gi_wp2
   exact b0s hDD rfl rfl HH.o.1 (by rw[HZ0.o];exact HH.o.2.2) (HH.o.2.1.setCell (p:=⟨W.heap.size+1,0,none⟩) eW _)
  case stop=>
   rintro D c pre A hD hpre ⟨rfl,hb,hB,hp⟩ hK;have HC:=aB (show ckN (.mk k (v1,v2,v3) t n o args)=2 from by
    obtain⟨i,hi,hf⟩:=hp;have hi2:i<zs.length:=by
     obtain⟨r,hr⟩:=hpre;have:i∈iU zs.length:=(by rw[<-hr];exact List.mem_append_left _ hi);simpa using this
    rw[HCK.o,if_neg];intro hall;rw[jA] at hall;have:=hall _ (dS hi2);rw[aP hi2,oQ] at hf;rw[hf] at this;cases this)
   have HZ0:=aB (show z=2 from HZ.o.symm.trans HC.o);have HH:=aB (bT hK (bT hB hb));clear hb hB hK hp
   gi_wp2
   exact b0s aE rfl rfl HH.o.1 (by rw[HZ0.o];exact HH.o.2.2) HH.o.2.1
end
section
theorem a1h:∃i,prog.info? 9=some i/\i.zero=some (S [])/\i.size=1/\i.bytes=16:=by
 have h:(prog.info? 9).map (fun i=>(i.zero,i.size,i.bytes))=some (some (S []),1,16):=af;cases hi:prog.info? 9 with
 |none=>rw[hi] at h;cases h
 |some i=>
  rw[hi] at h;injection h with h;injection h with h1 h2;injection h2 with h2 h3;exact⟨i,rfl,h1,h2,h3⟩
theorem b8c{W:World}{base:Nat}{v:Value}{l:List (List UInt8)}(h:W.ownsRow base 9 1 v l.length (l.map fun s=>S s)):(l=[]/\∃a' d',v= .slice a' 0 d')\/sW W v l:=by
 by_cases h0:l=[]
 ·subst h0;left;rcases h.2 with⟨e,_⟩|⟨g,cap,cur,hv,_⟩
  ·exact⟨rfl,_,_,e⟩
  ·exact⟨rfl,_,_,hv⟩
 ·right;have hpos:0<l.length:=qH.2 h0;have hcell:=fun g cap (e:v= .slice (some ⟨g,0,none⟩) l.length cap) (j:Nat) (hj:j<l.length)=>(show W.cell? ⟨g,j,none⟩=some (S l[j]) from by
   subst e;have hc:=h.cellAt j aE;rw[hc];simp[hj])
  have hcap:∀g cap,v= .slice (some ⟨g,0,none⟩) l.length cap->l.length<=cap:=fun g cap e=>(by subst e;exact c3g h);rcases h.2 with⟨e,hz⟩|⟨g,cap,cur,hv,_,hh,_⟩
  ·omega
  ·exact⟨g,cap,hv,hcap g cap hv,(aC.1 hh).1,fun j hj=>hcell g cap hv j hj⟩
theorem a7b{α:Type}(l:List α){j:Nat}(hj:j<l.length):l.take (j+1)=l.take j++[l[j]]:=by
 rw[dN,aP hj];rfl
theorem a6b:∀(n:Nat) (x:Ex),fC x<=n->n<=1000000->eH x=true->Fits x->(eY x).length<=100000000->∀(W:World) (v:Value),eO W x v->nD W->eg 175 #[v] W fun e w'=>e= .returned (S (eY x))/\Bl W w'
 |0,x,h,_,_,_,_,_,_,_,_=>by have:=oM x;omega
 |N+1,x,hx,hN,hC,hF,hl,W,v,hv,hG=>by
  obtain⟨sv,rfl,hR⟩:=hv;obtain⟨a,cap,rfl,hc⟩:=hR.shape;have hr:=vF hC;have IH:Hid (∀(y:Ex),y∈x.args->∀(W':World) (v:Value),Bl W W'->eO W' y v->eg 175 #[v] W' fun e w'=>e= .returned (S (eY y))/\Bl W' w'):=fun y hy W' v hb hv=>
   a6b N y (by have:=sH hy;omega) aE (a1l hC hy) (by cases hF with |mk _ _ _ _ _ _ _ ha=>exact ha y hy) (by have:=a1e hC hy;omega) W' v hv (hG.bl hb)
  have hlen:x.args.length<=1000000:=(by have:=sG x;omega);have HG:=aB hG;have hI:I64 x.v.2.1:=by cases hF with |mk _ _ _ _ _ _ h _=>exact h
  clear hR hF hx hG;obtain⟨k,⟨v1,v2,v3⟩,t,nm,o,args⟩:=x;have HC:Hid (∀(j:Nat) (h:j<args.length),∃b off s,a=some ⟨b,off,none⟩/\At8 W b (off+j * 8) args[j] s/\gU W s args[j].args):=aB hc
  replace hlen:args.length<=1000000:=hlen
  replace hI:I64 v2:=hI
  clear hc;show eg 175 #[EV k (v1,v2,v3) t nm o (.slice a args.length cap)] W fun e w'=>e= .returned (S (eY (.mk k (v1,v2,v3) t nm o args)))/\Bl W w';have hk:k=1\/k=2\/k=3\/k=4\/k=5:=xC (show dV k (v1,v2,v3) t nm o args=true from hr);have HT:Hid (eY (.mk k (v1,v2,v3) t nm o args)=uB k (v1,v2,v3) t nm o (args.map eY)):=(by show _=_;simp only[eY,vG]);rw[HT.o] at hl⊢;have HE:Hid (∀(w:World) (sv:Value),nD w->((args.map eY=[]/\∃a' d',sv= .slice a' 0 d')\/sW w sv (args.map eY))->eg (b1e k) #[EV k (v1,v2,v3) t nm o (.slice a args.length cap),sv] w fun e w'=>e= .returned (S (uB k (v1,v2,v3) t nm o (args.map eY)))/\Bl w w'):=fun w sv hG hS=>
   b2s (args:=args) (show dV k (v1,v2,v3) t nm o args=true from hr) hI aa ak hl w hG hS
  obtain⟨u,hu⟩:∃u,Hid (uB k (v1,v2,v3) t nm o (args.map eY)=u):=⟨_,rfl⟩
  rw[hu.o] at HE⊢;have hen:=a6f k;have hX0:=aN W (.cells #[.int .i64 k,.int .i64 v1,.int .i64 v2,S v3,S t,S nm,.int .i64 o,.slice a args.length cap] 38);have HB0:=aB ((Bl.refl W).alloc (.cells #[.int .i64 k,.int .i64 v1,.int .i64 v2,S v3,S t,S nm,.int .i64 o,.slice a args.length cap] 38));have HX0:=aB hX0;obtain⟨i0,hi,hz0,hz1,hz2⟩:=a1h;have HK:=aB hk;clear hl hr hC hI hX0 hk;go_enter func175,ntmps175;go_wp2_with fail;go_loopw [3,9] (fun sv i wr=>∃(j:Nat) (v0:Value),sv=v0/\j<=args.length/\i= .int .i64 (j:Int)/\Hid (wr.ownsRow (W.heap.size+1) 9 1 v0 j (((args.map eY).take j).map fun s=>S s))/\Hid (Bl W wr)/\
   Hid (wr.heap[W.heap.size]?=some (.cells #[.int .i64 k,.int .i64 v1,.int .i64 v2,S v3,S t,S nm,.int .i64 o,.slice a args.length cap] 38 (0,0)))) (fun _ i _=>args.length-(intOf i).toNat)
  case atStart=>exact⟨0,_,rfl,dL _,rfl,d2l _ _ _ _,HB0.o,HX0.o⟩
  case round=>
   obtain⟨j,v0,rfl,hj,rfl,HO,HB,HX⟩:=hrel;have hzr:=(aC.1 HX.o).1;by_cases hlt:j<args.length
   ·obtain⟨b,off,s,rfl,h8,hr⟩:=HC.o j hlt;have hmem:=dS hlt;obtain⟨asl,cs,rfl,-⟩:=hr.shape;have HR:=aB (hr.bl HB.o);have HSN:=aB (show(args.map eY).take (j+1)=(args.map eY).take j++[eY args[j]] from by
     rw[a7b _ (by simpa using hlt)];simp)
    have HM:=aB hmem;obtain⟨e0,e1,e2,e3,e4,e5,e6,e7⟩:=At8.keep h8 (HB.o.block b (by have:=bB _ _ h8.1;simpa using this));clear h8 hr hmem;generalize args[j]=y at *;obtain⟨k',⟨v1',v2',v3'⟩,t',nm',o',args'⟩:=y;simp only[Ex.k,Ex.v,Ex.t,Ex.n,Ex.o,Ex.args] at e0 e1 e2 e3 e4 e5 e6 e7 HR;have hlt':(j:Int)<(args.length:Int):=aE;go_wp2_with fail;have hRE:eO (wr.alloc (.cells #[.int .i64 k',.int .i64 v1',.int .i64 v2',S v3',S t',S nm',.int .i64 o',.slice asl args'.length cs] 38)) (.mk k' (v1',v2',v3') t' nm' o' args') (EV k' (v1',v2',v3') t' nm' o' (.slice asl args'.length cs)):=⟨_,rfl,HR.o.bl ((Bl.refl wr).alloc _)⟩
    refine(IH.o _ HM.o _ _ (HB.o.alloc _) hRE).mono ?_;rintro e w1 ⟨rfl,hb1⟩;have HB1:=aB (((Bl.refl wr).alloc _).call hb1);have HO1:=aB (gY HB1.o HO.o);have HX1:=aB ((HB1.o.block _ hzr).trans HX.o);have hz1':=(aC.1 HX1.o).1;obtain⟨ty,hty⟩:∃ty,Hid (eY (.mk k' (v1',v2',v3') t' nm' o' args')=ty):=⟨_,rfl⟩
    rw[hty.o];clear hb1 hRE e0 e1 e2 e3 e4 e5 e6 e7;go_wp2_with (at_builtin;refine wpList_append_own _ rfl _ _ 27 rfl (W.heap.size+1) 9 i0 (S []) 1 16 underlying27 hi hz0 hz1 hz2 rfl ae _ _ _ rfl (gY ((Bl.refl w1).alloc _) HO1.o) ⟨w1.heap.size,0,none⟩ 1 1 [S ty] rfl rfl ?c1 ?c2 ?c3 ?c4 ?c5 ?_)
    case c1=>
     intro i u hi
     match i,hi with
     |0,hi=>simp at hi;subst hi;simp[dY]
    case c2=>intro u hu;simp at hu;subst hu;rfl
    case c3=>unfold maxLen;omega
    case c4=>omega
    case c5=>simp;omega
    intro v' w2 hown2 hg2 _;have hlow:=HO1.o.lt;have HB2:=aB (iL ((HB.o.call HB1.o).alloc _) hg2 (by have:=(HB.o.call HB1.o).size;simp;omega) (fun i hi=>by have:=(hlow i hi).1;omega));have HX2:=aB ((hg2.block W.heap.size ak (fun e=>by have:=(hlow _ e.symm).1;omega)).trans ((aW _ _ hz1').trans HX1.o));have HO2:=aB hown2;clear hown2 hg2 hlow;go_wp2;go_roundw
    case rel=>exact⟨j+1,_,rfl,by omega,by go_num,by rw[HSN.o,hty.o,kW,List.map_take,List.map_map];exact HO2.o,HB2.o,HX2.o⟩
    case measure=>simp[intOf];omega
   ·obtain rfl:j=args.length:=by omega
    have hge:¬((args.length:Int)<(args.length:Int)):=aE;have HS:Hid ((args.map eY=[]/\∃a' d',u3= .slice a' 0 d')\/sW wr u3 (args.map eY)):=by
     have h:=HO.o;rw[jS aa] at h;have h2:wr.ownsRow (W.heap.size+1) 9 1 u3 (args.map eY).length ((args.map eY).map fun s=>S s):=(by rw[mD];exact h);exact b8c h2
    have HLK:=aB (fun(w:World)=>b6e (aN w (.map c7o 5)) HK.o);clear HO IH HC hj hlt;go_wp2_with fail;refine wp_region_noPanic (bM (fun B=>B.heap[W.heap.size]?=some (.cells #[.int .i64 k,.int .i64 v1,.int .i64 v2,S v3,S t,S nm,.int .i64 o,.slice a args.length cap] 38 (0,0))) ((.take 1 (.take 2 (.take 4 (.take 5 (.one 0 (.one 3 (.one 6 (.take 7 .done))))))))) af af af (fun _ _ _ _ _ h=>h) (HX.o) ?_);intro wd HWD hY;iterate 4 (refine cT ?_)
    refine aL rfl (fun K hK=>?_);go_simp;((with_reducible refine(b8u _).mono ?_);rintro e w3 ⟨rfl,rfl⟩);go_wp2_with fail;refine hK.o _ _ ((by first |exact(aW _ _ (aC.1 hY).1).trans hY|exact(hb6.block _ (aC.1 hY).1).trans hY)) ?_;clear hY hK K;intro hY;have hlook:=HLK.o wd;refine aL rfl (fun K hK=>?_);go_simp;refine hK.o _ _ (hY) ?_;clear hY hK K;intro hY;refine aL rfl (fun K hK=>?_);go_simp;(refine(HE.o _ _ (HG.o.bl ((HB.o.call HWD.o).alloc _)) (HS.o.imp (fun h=>h) fun h=>(h.bl HWD.o).bl ((Bl.refl _).alloc _))).mono ?_;rintro e w6 ⟨rfl,hb6⟩);go_wp2_with fail;refine hK.o _ _ ((by first |exact(aW _ _ (aC.1 hY).1).trans hY|exact(hb6.block _ (aC.1 hY).1).trans hY)) ?_;clear hY hK K;intro hY;refine cT ?_;refine fO (bF ?_);go_wp2;go_ret;exact⟨rfl,((HB.o.call HWD.o).alloc _).call hb6⟩
end
section
mutual
def c3p:Ex->Bool
 | .mk _ v t n _ args=>(decide (-9223372036854775808<=v.2.1)&&decide (v.2.1<=9223372036854775807)&&decide (t.length<=100000)&&decide (n.length<=100000))&&c0c args
def c0c:List Ex->Bool
 |[]=>true
 |x::r=>c3p x&&c0c r
end
mutual
theorem c2c:∀x:Ex,c3p x=true->Fits x/\Lens x
 | .mk k v t n o args,h=>by
  simp only[c3p,aQ,decide_eq_true_eq] at h;have ha:=b6r args h.2;exact⟨.mk k v t n o args ⟨h.1.1.1.1,h.1.1.1.2⟩ (fun y hy=>(ha y hy).1),.mk k v t n o args (by have:=h.1.1.2;omega) (by have:=h.1.2;omega) (fun y hy=>(ha y hy).2)⟩
theorem b6r:∀l:List Ex,c0c l=true->∀y∈l,Fits y/\Lens y
 |[],_,_,hy=>by cases hy
 |x::r,h,y,hy=>by
  simp only[c0c,aQ] at h;rcases dD.1 hy with e|hy
  ·rw[e];exact c2c x h.1
  ·exact b6r r h.2 y hy
end
theorem a6k{x:Ex}(hp:fC x<=1000000)(hC:eH x=true)(hF:Fits x)(hL:Lens x)(hl:(eY x).length<=100000000)(W:World)(v:Value)(hv:eO W x v)(hG:nD W):
  eg 114 #[v] W fun e w'=>e= .returned (.tuple #[S (eY x),.int .i64 0])/\Bl W w':=by
 have HCK:Hid (∀W' v,Bl W W'->eO W' x v->eg 155 #[v] W' fun e w'=>e= .returned (.int .i64 0)/\Bl W' w'):=fun W' v hb hv=>by
  have h:=yO _ x (aH _) hp hL W' v hv (hG.bl hb);rw[show ckN x=0 by unfold ckN;rw[if_pos hC]] at h;exact h
 have HTX:Hid (∀W' v,Bl W W'->eO W' x v->eg 175 #[v] W' fun e w'=>e= .returned (S (eY x))/\Bl W' w'):=fun W' v hb hv=>a6b _ x (aH _) hp hC hF hl W' v hv (hG.bl hb);have HV:=aB hv;obtain⟨sv,rfl,hR⟩:=hv;obtain⟨a,cap,rfl,-⟩:=hR.shape;clear hR hC hF hL hp hl;obtain⟨u,hu⟩:∃u,Hid (eY x=u):=⟨_,rfl⟩
 rw[hu.o] at HTX⊢;obtain⟨k,⟨v1,v2,v3⟩,t,n,o,args⟩:=x;simp only[Ex.k,Ex.v,Ex.t,Ex.n,Ex.o,Ex.args] at *;have hX0:=aN W (.cells #[.int .i64 k,.int .i64 v1,.int .i64 v2,S v3,S t,S n,.int .i64 o,.slice a args.length cap] 38);have HB0:=aB ((Bl.refl W).alloc (.cells #[.int .i64 k,.int .i64 v1,.int .i64 v2,S v3,S t,S n,.int .i64 o,.slice a args.length cap] 38));go_enter func114,ntmps114;go_wp2_with fail;refine(HCK.o _ _ HB0.o (HV.o.bl HB0.o)).mono ?_;rintro e w1 ⟨rfl,hb1⟩;have HB1:=aB (HB0.o.call hb1);have hX1:=(hb1.block _ aa).trans hX0;obtain⟨⟨e0,e1,e2,e3,e4,e5,e6,e7⟩,-⟩:=eight hX1;clear hb1 hX0;go_wp2_with fail;refine(HTX.o _ _ HB1.o (HV.o.bl HB1.o)).mono ?_;rintro e w2 ⟨rfl,hb2⟩;go_wp2;go_ret2;exact⟨rfl,HB1.o.call hb2⟩
end
section
theorem lL.open{s:List UInt8}{W:World}{e:Ending}{w':World}(h:lL s W e w'):∃k v1 v2 v3 t n o a m c,e= .returned (.tuple #[EV k (v1,v2,v3) t n o (.slice a m c),.int .i64 (iC s).1])/\Bl W w'/\eO w' (iC s).2 (EV k (v1,v2,v3) t n o (.slice a m c)):=by
 obtain⟨v,hv,rfl,hb⟩:=h;obtain⟨sv,rfl,hR⟩:=id hv;obtain⟨a,cap,rfl,-⟩:=hR.shape;exact⟨_,_,_,_,_,_,_,_,_,_,rfl,hb,hv⟩
end
section
theorem c7p{l m:List Ex}(h:l.length≠m.length):lQ l m=false:=by
 cases hs:lQ l m
 ·rfl
 ·exact absurd (a1x hs) h
theorem c3u{W:World}{a a2:Option Addr}{cap cap2:Nat}{l m:List Ex}(hlen:l.length<=1000000)(hR:gU W (.slice a l.length cap) l)(hR2:gU W (.slice a2 m.length cap2) m)
  (hf:∀y∈l,∀z (W':World) (v u:Value),Bl W W'->eO W' y v->eO W' z u->eg 39 #[v,u] W' fun e w'=>e= .returned (.bool (kR y z))/\Bl W' w'):
  eg 81 #[.slice a l.length cap,.slice a2 m.length cap2,.func (.func 39) #[] #[]] W fun e w'=>e= .returned (.bool (lQ l m))/\Bl W w':=by
 have hen:∀(args:Array Value) (w:World),(callFunc 39 args).run prog w= .ok (.enter 39 args) w:=fun args w=>an;by_cases hl:l.length=m.length
 case neg=>
  rw[c7p hl];have hl':¬(l.length:Int)=(m.length:Int):=aE;have hb:((l.length:Int)==(m.length:Int))=false:=av;have hb':((l.length:Int) != (m.length:Int))=true:=av;clear hl hl' hR hR2 hf hlen;go_enter func81,ntmps81;go_wp2;go_ret;exact⟨rfl,Bl.refl W⟩
 obtain⟨a',cap',e,hc⟩:=hR.shape;obtain⟨rfl,rfl⟩:a=a'/\cap=cap':=ba;obtain⟨a3,cap3,e3,hc2⟩:=hR2.shape;obtain⟨rfl,rfl⟩:a2=a3/\cap2=cap3:=cr;have HC:=aB hc;have HC2:=aB hc2;have HF:=aB hf;have HLE:=aB hl;rw[<-hl];obtain⟨R,HRR⟩:∃R,Hid (lQ l m=R):=⟨_,rfl⟩
 rw[HRR.o];clear hR hR2 hc hc2 hf e e3 hl;go_enter func81,ntmps81;go_wp2_with fail;go_loopw [17] (fun i wr=>∃j:Nat,j<=l.length/\i= .int .i64 (j:Int)/\Hid (R=lQ (l.drop j) (m.drop j))/\Hid (Bl W wr)) (fun i _=>l.length-(intOf i).toNat)
 case atStart=>exact⟨0,dL _,rfl,HRR.o.symm,Bl.refl W⟩
 case round=>
  obtain⟨j,hj,rfl,HD,HB⟩:=hrel;by_cases hlt:j<l.length
  ·have hlt2:j<m.length:=by have:=HLE.o;omega
   obtain⟨b,off,s,rfl,h8,hr⟩:=HC.o j hlt;obtain⟨b2,off2,s2,rfl,h82,hr2⟩:=HC2.o j hlt2;have HDj:=aB (a6w hlt hlt2);have HM:=aB (dS hlt);obtain⟨asl,cs,rfl,-⟩:=hr.shape;obtain⟨asl2,cs2,rfl,-⟩:=hr2.shape;have HR:=aB (hr.bl HB.o);have HR2:=aB (hr2.bl HB.o);have h8':=h8.bl HB.o;obtain⟨e0,e1,e2,e3,e4,e5,e6,e7⟩:=h8';have h82':=h82.bl HB.o;obtain⟨i0,i1,i2,i3,i4,i5,i6,i7⟩:=h82';have hbl2:b2<wr.heap.size:=(by have:=bB _ _ i0;simpa using this);have hlt':(j:Int)<(l.length:Int):=aE;clear h8 hr h82 hr2;generalize l[j]=y at *;generalize m[j]=z at *;obtain⟨k',⟨v1',v2',v3'⟩,t',nm',o',args'⟩:=y;obtain⟨k3,⟨u1,u2,u3⟩,t3,nm3,o3,args3⟩:=z;simp only[Ex.k,Ex.v,Ex.t,Ex.n,Ex.o,Ex.args] at e0 e1 e2 e3 e4 e5 e6 e7 i0 i1 i2 i3 i4 i5 i6 i7 HR HR2;have HW:=aB (((Bl.refl wr).alloc (.cells #[.int .i64 k',.int .i64 v1',.int .i64 v2',S v3',S t',S nm',.int .i64 o',.slice asl args'.length cs] 38)).alloc (.cells #[.int .i64 k3,.int .i64 u1,.int .i64 u2,S u3,S t3,S nm3,.int .i64 o3,.slice asl2 args3.length cs2] 38));have HRE:=aB (show eO wr (.mk k' (v1',v2',v3') t' nm' o' args') (EV k' (v1',v2',v3') t' nm' o' (.slice asl args'.length cs)) from⟨_,rfl,HR.o⟩);have HRE2:=aB (show eO wr (.mk k3 (u1,u2,u3) t3 nm3 o3 args3) (EV k3 (u1,u2,u3) t3 nm3 o3 (.slice asl2 args3.length cs2)) from⟨_,rfl,HR2.o⟩);go_wp2_with fail;refine(HF.o _ HM.o (.mk k3 (u1,u2,u3) t3 nm3 o3 args3) _ _ _ (HB.o.call HW.o) (HRE.o.bl HW.o) (HRE2.o.bl HW.o)).mono ?_;rintro e w1 ⟨rfl,hb1⟩;have HB1:=aB ((HB.o.call HW.o).call hb1);clear hb1 e0 e1 e2 e3 e4 e5 e6 e7 i0 i1 i2 i3 i4 i5 i6 i7;cases hs:kR (.mk k' (v1',v2',v3') t' nm' o' args') (.mk k3 (u1,u2,u3) t3 nm3 o3 args3)
   ·have HN:=aB (show R=false from by rw[HD.o,HDj.o,hs,pK]);clear hs;go_wp2;go_ret;exact⟨by rw[HN.o];rfl,HB1.o⟩
   ·have HN:=aB (show R=lQ (l.drop (j+1)) (m.drop (j+1)) from by rw[HD.o,HDj.o,hs,rC]);clear hs;go_wp2;go_roundw
    case rel=>exact⟨j+1,by omega,by go_num,HN.o,HB1.o⟩
    case measure=>simp[intOf];omega
  ·obtain rfl:j=l.length:=by omega
   have HN:=aB (show R=true from by rw[HD.o,dO,HLE.o,dO];rfl);go_wp2;go_ret;exact⟨by rw[HN.o];rfl,HB.o⟩
theorem b7d:∀(n:Nat) (x y:Ex),fC x<=n->n<=1000000->∀(W:World) (v u:Value),eO W x v->eO W y u->eg 39 #[v,u] W fun e w'=>e= .returned (.bool (kR x y))/\Bl W w'
 |0,x,_,h,_,_,_,_,_,_=>by have:=oM x;omega
 |n+1,x,y,hx,hn,W,v,u,hv,hu=>by
  obtain⟨sv,rfl,hL⟩:=hv;obtain⟨su,rfl,hL2⟩:=hu;have IH:Hid (∀y∈x.args,∀z (W':World) (v u:Value),eO W' y v->eO W' z u->eg 39 #[v,u] W' fun e w'=>e= .returned (.bool (kR y z))/\Bl W' w'):=fun y hy z W' v u hv hu=>b7d n y z (by have:=sH hy;omega) aE W' v u hv hu;have hlen:x.args.length<=1000000:=(by have:=sG x;omega);obtain⟨k,⟨v1,v2,v3⟩,t,nm,o,args⟩:=x;obtain⟨k2,⟨u1,u2,u3⟩,t2,nm2,o2,args2⟩:=y
  replace hlen:args.length<=1000000:=hlen
  replace hL:gU W sv args:=hL
  replace hL2:gU W su args2:=hL2
  obtain⟨a,cap,rfl,-⟩:=hL.shape;obtain⟨a2,cap2,rfl,-⟩:=hL2.shape;have HQ:Hid (∀w,Bl W w->eg 81 #[.slice a args.length cap,.slice a2 args2.length cap2,.func (.func 39) #[] #[]] w fun e w'=>e= .returned (.bool (lQ args args2))/\Bl w w'):=fun w hb=>c3u hlen (hL.bl hb) (hL2.bl hb) fun y hy z W' v u _ hv hu=>IH.o y hy z W' v u hv hu;show eg 39 #[EV k (v1,v2,v3) t nm o (.slice a args.length cap),EV k2 (u1,u2,u3) t2 nm2 o2 (.slice a2 args2.length cap2)] W fun e w'=>e= .returned (.bool (kR (.mk k (v1,v2,v3) t nm o args) (.mk k2 (u1,u2,u3) t2 nm2 o2 args2)))/\Bl W w';clear hL hL2 hx IH hlen;by_cases hk:k=k2
  case neg=>
   have HE:Hid (kR (.mk k (v1,v2,v3) t nm o args) (.mk k2 (u1,u2,u3) t2 nm2 o2 args2)=false):=(by show _=_;simp[kR,hk]);rw[HE.o];have hb:(k==k2)=false:=(by simpa using hk);have hb':(k != k2)=true:=(by simpa using hk);clear HQ;go_enter func39,ntmps39;go_wp2;go_ret;exact⟨rfl,((Bl.refl W).alloc _).alloc _⟩
  subst hk;by_cases hv1:v1=u1
  case neg=>
   have HE:Hid (kR (.mk k (v1,v2,v3) t nm o args) (.mk k (u1,u2,u3) t2 nm2 o2 args2)=false):=(by show _=_;simp[kR,hv1]);rw[HE.o];have hb:(v1==u1)=false:=(by simpa using hv1);have hb':(v1 != u1)=true:=(by simpa using hv1);clear HQ;go_enter func39,ntmps39;go_wp2;go_ret;exact⟨rfl,((Bl.refl W).alloc _).alloc _⟩
  subst hv1;by_cases hv2:v2=u2
  case neg=>
   have HE:Hid (kR (.mk k (v1,v2,v3) t nm o args) (.mk k (v1,u2,u3) t2 nm2 o2 args2)=false):=(by show _=_;simp[kR,hv2]);rw[HE.o];have hb:(v2==u2)=false:=(by simpa using hv2);have hb':(v2 != u2)=true:=(by simpa using hv2);clear HQ;go_enter func39,ntmps39;go_wp2;go_ret;exact⟨rfl,((Bl.refl W).alloc _).alloc _⟩
  subst hv2;by_cases hv3:v3=u3
  case neg=>
   have HE:Hid (kR (.mk k (v1,v2,v3) t nm o args) (.mk k (v1,v2,u3) t2 nm2 o2 args2)=false):=(by show _=_;simp[kR,hv3]);rw[HE.o];have hb:(v3==u3)=false:=(by simpa using hv3);have hb':(v3 != u3)=true:=(by simpa using hv3);clear HQ;go_enter func39,ntmps39;go_wp2;go_ret;exact⟨rfl,((Bl.refl W).alloc _).alloc _⟩
  subst hv3;by_cases ht:t=t2
  case neg=>
   have HE:Hid (kR (.mk k (v1,v2,v3) t nm o args) (.mk k (v1,v2,v3) t2 nm2 o2 args2)=false):=(by show _=_;simp[kR,ht]);rw[HE.o];have hb:(t==t2)=false:=cI;have hb':(t != t2)=true:=cI;clear HQ;go_enter func39,ntmps39;go_wp2;go_ret;exact⟨rfl,((Bl.refl W).alloc _).alloc _⟩
  subst ht;by_cases hnm:nm=nm2
  case neg=>
   have HE:Hid (kR (.mk k (v1,v2,v3) t nm o args) (.mk k (v1,v2,v3) t nm2 o2 args2)=false):=(by show _=_;simp[kR,hnm]);rw[HE.o];have hb:(nm==nm2)=false:=(by simpa using hnm);have hb':(nm != nm2)=true:=(by simpa using hnm);clear HQ;go_enter func39,ntmps39;go_wp2;go_ret;exact⟨rfl,((Bl.refl W).alloc _).alloc _⟩
  subst hnm;by_cases ho:o=o2
  case neg=>
   have HE:Hid (kR (.mk k (v1,v2,v3) t nm o args) (.mk k (v1,v2,v3) t nm o2 args2)=false):=(by show _=_;simp[kR,ho]);rw[HE.o];have hb:(o==o2)=false:=(by simpa using ho);have hb':(o != o2)=true:=(by simpa using ho);clear HQ;go_enter func39,ntmps39;go_wp2;go_ret;exact⟨rfl,((Bl.refl W).alloc _).alloc _⟩
  subst ho;have HS:Hid (kR (.mk k (v1,v2,v3) t nm o args) (.mk k (v1,v2,v3) t nm o args2)=lQ args args2):=(by show _=_;simp[kR]);rw[HS.o];generalize lQ args args2=bs at *;generalize args.length=m at *;generalize args2.length=m2 at *;go_enter func39,ntmps39;go_wp2_with fail;refine(HQ.o _ (((Bl.refl W).alloc _).alloc _)).mono ?_;rintro e w1 ⟨rfl,hb1⟩;go_wp2;go_ret;exact⟨rfl,(((Bl.refl W).alloc _).alloc _).call hb1⟩
end
end Go.Proofs.YtohlomdapelgeaaGreatDoor
