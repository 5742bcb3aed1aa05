/- Texts MT2 MN MZ. -/
import Derived.Test.YtkimpcmkminffaaGreatDoorNC
import Derived.Test.YtkimpcmkminffaaGreatDoorNA
import Derived.Test.YtkimpcmkminffaaGreatDoorNS
import Derived.Lib.Join
import Derived.Test.YtkimpcmkminffaaGreatDoorND
import Derived.Test.YtkimpcmkminffaaGreatDoorNX
namespace Go.Proofs.YtkimpcmkminffaaGreatDoor
open _root_.Go.Proofs.Tryz
open Go.RowKit
open Go.RowKit Go.Shelf
open _root_.Go.Act renaming put->aK
open _root_.And renaming intro->bT
open _root_.Array renaming getElem?_eq_some_iff->aC,replicate_succ->eX,replicate_zero->eU
open _root_.Go.RowKit.Below renaming grown->iL,refl->bS
open _root_.Bool renaming and_eq_true->aQ,false_and->pK,true_and->rC
open _root_.Go.Lib renaming frozen_of_heap->aJ,hid->aB
open _root_.List renaming all_eq_true->jA,append_toArray->fD,cons_append->bE,eq_nil_of_length_eq_zero->lM,ext_getElem->kX,getElem?_eq_getElem->aP,getElem_mem->dS,isEmpty_iff->iZ,length_cons->aX,length_nil->bL,mem_append->iX,mem_cons->dD,mem_of_getElem?->dJ,mem_singleton->gQ,nil_append->cB,push_toArray->gH,range->iU,setIfInBounds_toArray->aA,set_cons_succ->aF,set_cons_zero->aD,size_toArray->gG,take_append_drop->gF
open _root_.Nat renaming le_refl->aH,le_trans->jH,lt_of_lt_of_le->gK,zero_le->dL
open NoPanic renaming normal->bF
open _root_.Go.Oper renaming semAt_some->nC
open _root_.Option renaming bind_eq_some_iff->dG,getD_some->oQ,map_eq_some_iff->aT
open _root_.Go.World renaming block_lt_of_cell?->bB
set_option maxRecDepth 100000
set_option maxHeartbeats 8000000
section
end
section
end
section
def sW(W:World)(sv:Value)(l:List (List UInt8)):Prop:=∃b cap,sv= .slice (some ⟨b,0,none⟩) l.length cap/\l.length<=cap/\b<W.heap.size/\∀j (h:j<l.length),W.cell? ⟨b,j,none⟩=some (S l[j])
theorem sW.bl{A B:World}{sv:Value}{l:List (List UInt8)}(h:sW A sv l)(hb:Bl A B):sW B sv l:=by
 obtain⟨b,cap,e,hc,hl,hcs⟩:=h;exact⟨b,cap,e,hc,gK hl hb.size,fun j hj=>hb.cell (hcs j hj)⟩
end
section
end
section
end
section
theorem zQ{parse:List UInt8->Option (Int×Int×List UInt8)}(N:Nat):∀(f:Nat) (s:List UInt8) (l:List Tok),a4s parse N f s=some l->∀x∈l,x.k≠4
 |0,_,_,h=>by cases h
 |f+1,s,l,h=>by
  unfold a4s at h;split at h
  ·injection h with h;subst h;intro x hx;cases hx
  ·obtain⟨y,h1,h2⟩:=dG.1 h;obtain⟨r,h3,h4⟩:=aT.1 h2;subst h4;intro x hx;rcases dD.1 hx with rfl|hx
   ·have:=(nN h1).2.2;show y.1≠4;omega
   ·exact zQ N f _ r h3 x hx
theorem b1h{s:List UInt8}{ts:List Tok}(h:jQ s=some ts):∀x∈ts,x.k≠4:=zQ _ _ _ ts h
theorem b7c(s:List UInt8)(hs:s.length<=9223372036854775807)(h:bY s≠0)(W:World)(hG:nD W):cL 80 #[S s] W fun e w'=>e= .returned (.bool (mO s))/\Bl W w':=by
 rw[a5t h];have hb0:(bY s==0)=false:=av;have HA:=aB h;clear h;go_enter func80,ntmps80;go_wp2_with fail
 (with_reducible refine(a7d s hs HA.o _ hG).mono ?_)
 rintro e w1 ⟨rfl,hb1⟩;go_wp2_with fail
 (with_reducible refine(a9c (W:=w1) (p:=none) (by unfold xS;exact Or.inl rfl)).mono ?_)
 rintro e w2 ⟨rfl,hb2⟩;go_wp2;go_ret;exact⟨rfl,hb1.call hb2⟩
theorem b2t(s:List UInt8)(hs:s.length<=4000)(ts:List Tok)(h:jQ s=some ts)(W:World)(hG:nD W):cL 80 #[S s] W fun e w'=>e= .returned (.bool (mO s))/\Bl W w':=by
 have HT:=aB (a4t h);have HTS:=aB h;have HN:=aB (b0f hs h);have hfld:∀(y:Tok) (w:World),Sem.run prog (Instr.field 130 (TVt y) 0) w= .ok (.int .i64 y.k) w:=fun _ _=>rfl;clear h;go_enter func80,ntmps80;go_wp2_with fail
 (with_reducible refine(a4h s hs ts HTS.o _ hG).mono ?_)
 rintro e w1 ⟨bs,g,cap,rfl,hb1,hbs,hgs,hs1⟩;have HS1:=aB hs1;have HB1:=aB hb1;obtain⟨tl,htl⟩:∃tl,Hid (tl=ts++[eT s.length]):=⟨_,rfl⟩
 rw[<-htl.o] at HS1 HT;clear hs1 hb1;cases hn:mM tl 0 with
 |none=>
  have HF:=aB (show mO s=false from by
   rw[HN.o];rcases ts with _|⟨x,_|⟨y,r⟩⟩
   ·rfl
   ·have hx:tl[0]?=some x:=by rw[htl.o];rfl
    unfold mM at hn;rw[hx] at hn;simp only at hn;split at hn
    ·cases hn
    ·rename_i hi;show(fH x&&(x.t==s))=false;rw[show fH x=false by simpa using hi];rfl
   ·rfl)
  have HNN:=aB hn;clear hn;go_wp2_with fail
  (with_reducible refine(a8a HS1.o HNN.o).mono ?_)
  rintro e w2 ⟨rfl,hg2,hs2⟩;have HB2:=aB (show Bl W w2 from iL HB1.o hg2 HB1.o.size (fun j hj=>by injection hj with hj;subst hj;exact hbs));clear hg2 hs2;go_wp2;go_ret;exact⟨by rw[HF.o];rfl,HB2.o⟩
 |some q=>
  obtain⟨n,k1⟩:=q;have HNN:=aB hn;have hx:∃x r,ts=x::r/\fH x=true/\x.t=n/\k1=1:=by
   rcases ts with _|⟨x,r⟩
   ·have hx:tl[0]?=some (eT s.length):=by rw[htl.o];rfl
    unfold mM at hn;rw[hx] at hn;simp[fH,eT] at hn
   ·have hx:tl[0]?=some x:=by rw[htl.o];rfl
    unfold mM at hn;rw[hx] at hn;simp only at hn;split at hn
    ·rename_i hi;injection hn with hn;injection hn with h1 h2;refine⟨x,r,rfl,hi,h1,?_⟩;rw[<-h2,htl.o];unfold fT;rw[if_pos aa]
    ·cases hn
  obtain⟨x,r,hts,hix,hxt,hk1⟩:=hx;subst hk1;have hy:tl[1]?=some (tl[1]'(by rw[htl.o,hts];simp)):=aP _;have hyk:(tl[1]'(by rw[htl.o,hts];simp)).k=4↔r=[]:=by
   constructor
   ·intro h4;rcases r with _|⟨z,r⟩
    ·rfl
    ·subst hts;have e:tl=x::z::(r++[eT s.length]):=htl.o;subst e;exact absurd h4 (b1h HTS.o z aa)
   ·rintro rfl;subst hts;have e:tl=[x,eT s.length]:=htl.o;subst e;rfl
  generalize tl[1]'(by rw[htl.o,hts];simp)=y at hy hyk;have HY:=aB hy;have HRes:=aB (show mO s=((n==s)&&(y.k==4)) from by
   rw[HN.o,hts];rcases r with _|⟨z,r⟩
   ·show(fH x&&(x.t==s))=_;rw[hix,hxt,show(y.k==4)=true by simpa using hyk.2 rfl];simp
   ·show false=_;have:¬y.k=4:=fun h=>(by have:=hyk.1 h;cases this);rw[show(y.k==4)=false by simpa using this];simp)
  have hf:=hfld y;clear hn hts hix hxt hy hyk hfld;go_wp2_with fail
  (with_reducible refine(a3p HS1.o HNN.o).mono ?_)
  rintro e w2 ⟨rfl,hg2,hs2⟩;have HB2:=aB (show Bl W w2 from iL HB1.o hg2 HB1.o.size (fun j hj=>by injection hj with hj;subst hj;exact hbs));have HS2:=aB hs2;clear hg2 hs2;obtain⟨tk,tp,tt,ta,tb,tc⟩:=y;cases hns:(n==s)
  ·have HR2:=aB (HRes.o.trans (by rw[hns];try rfl));go_wp2;go_ret;exact⟨by rw[HR2.o];rfl,HB2.o⟩
  ·have HR2:=aB (show mO s=(tk==4) from HRes.o.trans (by rw[hns];try rfl));go_wp2_with fail
   (with_reducible refine(rH HS2.o HY.o).mono ?_)
   rintro e w3 ⟨rfl,hb3⟩;go_wp2;go_ret;exact⟨by rw[HR2.o];rfl,HB2.o.call hb3⟩
theorem a6g(s:List UInt8)(hs:s.length<=9223372036854775807)(W:World)(hG:nD W):cL 80 #[S s] W fun e w'=>e= .returned (.bool (mO s))/\Bl W w':=by
 by_cases h:bY s=0
 ·have hl:s.length<=4000:=by
   unfold bY at h;split at h
   ·cases h
   ·omega
  cases ht:jQ s with
  |none=>
   unfold bY at h;rw[if_neg aE,if_pos ht] at h;cases h
  |some ts=>exact b2t s hl ts ht W hG
 ·exact b7c s hs h W hG
end
section
theorem pQ{k v1 v2 o u1 u2 k2 o2:Int}{v3 t n u3 t2 n2:List UInt8}{a a2:Option Addr}{m c m2 c2:Nat}(hB:∀w,cL 79 #[EV k (v1,v2,v3) t n o (.slice a m c)] w fun e w'=>e= .returned (EV k2 (u1,u2,u3) t2 n2 o2 (.slice a2 m2 c2))/\Bl w w')
  (hne:¬(u1=v1/\u2=v2/\u3=v3/\t2=t/\n2=n/\o2=o/\m2=m)) (w:World):cL 51 #[EV k (v1,v2,v3) t n o (.slice a m c)] w fun e w'=>e= .returned (.bool false)/\Bl w w':=by
 have HB:=aB hB;clear hB;by_cases h1:u1=v1
 case neg=>
  clear hne;have hb:(u1==v1)=false:=az;have hb':(u1 != v1)=true:=az;clear h1;go_enter func51,ntmps51;go_wp2_with fail;refine(HB.o _).mono ?_;rintro e w1 ⟨rfl,hb1⟩;have hX1:=(hb1.block w.heap.size aa).trans (aN w _);obtain⟨⟨e0,e1,e2,e3,e4,e5,e6,e7⟩,-⟩:=eight hX1;have hlt:=(aC.1 hX1).1;go_wp2;go_ret;exact⟨rfl,(((Bl.refl w).alloc _).call hb1).alloc _⟩
 subst h1;by_cases h2:u2=v2
 case neg=>
  clear hne;have hb:(u2==v2)=false:=bc;have hb':(u2 != v2)=true:=bc;clear h2;go_enter func51,ntmps51;go_wp2_with fail;refine(HB.o _).mono ?_;rintro e w1 ⟨rfl,hb1⟩;have hX1:=(hb1.block w.heap.size aa).trans (aN w _);obtain⟨⟨e0,e1,e2,e3,e4,e5,e6,e7⟩,-⟩:=eight hX1;have hlt:=(aC.1 hX1).1;go_wp2;go_ret;exact⟨rfl,(((Bl.refl w).alloc _).call hb1).alloc _⟩
 subst h2;by_cases h3:u3=v3
 case neg=>
  clear hne;have hb:(u3==v3)=false:=bh;have hb':(u3 != v3)=true:=bh;clear h3;go_enter func51,ntmps51;go_wp2_with fail;refine(HB.o _).mono ?_;rintro e w1 ⟨rfl,hb1⟩;have hX1:=(hb1.block w.heap.size aa).trans (aN w _);obtain⟨⟨e0,e1,e2,e3,e4,e5,e6,e7⟩,-⟩:=eight hX1;have hlt:=(aC.1 hX1).1;go_wp2;go_ret;exact⟨rfl,(((Bl.refl w).alloc _).call hb1).alloc _⟩
 subst h3;by_cases h4:t2=t
 case neg=>
  clear hne;have hb:(t2==t)=false:=br;have hb':(t2 != t)=true:=br;clear h4;go_enter func51,ntmps51;go_wp2_with fail;refine(HB.o _).mono ?_;rintro e w1 ⟨rfl,hb1⟩;have hX1:=(hb1.block w.heap.size aa).trans (aN w _);obtain⟨⟨e0,e1,e2,e3,e4,e5,e6,e7⟩,-⟩:=eight hX1;have hlt:=(aC.1 hX1).1;go_wp2;go_ret;exact⟨rfl,(((Bl.refl w).alloc _).call hb1).alloc _⟩
 subst h4;by_cases h5:n2=n
 case neg=>
  clear hne;have hb:(n2==n)=false:=(by simpa using h5);have hb':(n2 != n)=true:=(by simpa using h5);clear h5;go_enter func51,ntmps51;go_wp2_with fail;refine(HB.o _).mono ?_;rintro e w1 ⟨rfl,hb1⟩;have hX1:=(hb1.block w.heap.size aa).trans (aN w _);obtain⟨⟨e0,e1,e2,e3,e4,e5,e6,e7⟩,-⟩:=eight hX1;have hlt:=(aC.1 hX1).1;go_wp2;go_ret;exact⟨rfl,(((Bl.refl w).alloc _).call hb1).alloc _⟩
 subst h5;by_cases h6:o2=o
 case neg=>
  clear hne;have hb:(o2==o)=false:=(by simpa using h6);have hb':(o2 != o)=true:=(by simpa using h6);clear h6;go_enter func51,ntmps51;go_wp2_with fail;refine(HB.o _).mono ?_;rintro e w1 ⟨rfl,hb1⟩;have hX1:=(hb1.block w.heap.size aa).trans (aN w _);obtain⟨⟨e0,e1,e2,e3,e4,e5,e6,e7⟩,-⟩:=eight hX1;have hlt:=(aC.1 hX1).1;go_wp2;go_ret;exact⟨rfl,(((Bl.refl w).alloc _).call hb1).alloc _⟩
 subst h6;have h7:¬(m2:Int)=(m:Int):=by
  intro h;exact hne ⟨rfl,rfl,rfl,rfl,rfl,rfl,by omega⟩
 clear hne;have hb:((m2:Int)==(m:Int))=false:=(by simpa using h7);have hb':((m2:Int) != (m:Int))=true:=(by simpa using h7);clear h7;go_enter func51,ntmps51;go_wp2_with fail;refine(HB.o _).mono ?_;rintro e w1 ⟨rfl,hb1⟩;have hX1:=(hb1.block w.heap.size aa).trans (aN w _);obtain⟨⟨e0,e1,e2,e3,e4,e5,e6,e7⟩,-⟩:=eight hX1;have hlt:=(aC.1 hX1).1;go_wp2;go_ret;exact⟨rfl,(((Bl.refl w).alloc _).call hb1).alloc _⟩
theorem c0j{v1 v2 o:Int}{v3 t n:List UInt8}{a a2:Option Addr}{m c c2:Nat}(hB:∀w,cL 79 #[EV 1 (v1,v2,v3) t n o (.slice a m c)] w fun e w'=>e= .returned (EV 1 (v1,v2,v3) t n o (.slice a2 m c2))/\Bl w w')(w:World):
  cL 51 #[EV 1 (v1,v2,v3) t n o (.slice a m c)] w fun e w'=>e= .returned (.bool ((chk v1 v2 v3==0)&&(v1 != 2||decide (0<=v2))))/\Bl w w':=by
 obtain⟨z,hz⟩:∃z,Hid (chk v1 v2 v3=z):=⟨_,rfl⟩
 have HC:Hid (∀w,cL 45 #[V v1 v2 v3] w fun e w'=>e= .returned (.int .i64 z)/\Bl w w'):=fun w=>(by rw[<-hz.o];exact b7z v1 v2 v3 w);rw[hz.o];by_cases hz0:z=0
 ·subst hz0;by_cases hv:v1=2
  ·subst hv;by_cases h0:0<=v2
   ·have hd:decide (0<=v2)=true:=by simpa using h0
    have hn:¬v2<0:=aE;rw[hd];have HB:=aB hB;clear hB;go_enter func51,ntmps51;go_wp2_with fail;refine(HB.o _).mono ?_;rintro e w1 ⟨rfl,hb1⟩;have hX1:=(hb1.block w.heap.size aa).trans (aN w _);obtain⟨⟨e0,e1,e2,e3,e4,e5,e6,e7⟩,-⟩:=eight hX1;have hlt:=(aC.1 hX1).1;have HBL:=aB (((Bl.refl w).alloc _).call hb1);clear hb1;go_wp2_with fail;refine(HC.o _).mono ?_;rintro e w2 ⟨rfl,hb2⟩;have HB2:=aB ((HBL.o.alloc _).call hb2);have hX2:=(((Bl.refl w1).alloc _).call hb2).block _ hlt |>.trans hX1
    obtain⟨⟨i0,i1,i2,i3,i4,i5,i6,i7⟩,-⟩:=eight hX2;clear e0 e1 e2 e3 e4 e5 e6 e7 hb2;go_wp2;go_ret;exact⟨rfl,HB2.o⟩
   ·have hd:decide (0<=v2)=false:=by simpa using h0
    rw[hd];have HB:=aB hB;clear hB;go_enter func51,ntmps51;go_wp2_with fail;refine(HB.o _).mono ?_;rintro e w1 ⟨rfl,hb1⟩;have hX1:=(hb1.block w.heap.size aa).trans (aN w _);obtain⟨⟨e0,e1,e2,e3,e4,e5,e6,e7⟩,-⟩:=eight hX1;have hlt:=(aC.1 hX1).1;have HBL:=aB (((Bl.refl w).alloc _).call hb1);clear hb1;go_wp2_with fail;refine(HC.o _).mono ?_;rintro e w2 ⟨rfl,hb2⟩;have HB2:=aB ((HBL.o.alloc _).call hb2);have hX2:=(((Bl.refl w1).alloc _).call hb2).block _ hlt |>.trans hX1
    obtain⟨⟨i0,i1,i2,i3,i4,i5,i6,i7⟩,-⟩:=eight hX2;clear e0 e1 e2 e3 e4 e5 e6 e7 hb2;go_wp2;go_ret;exact⟨rfl,HB2.o⟩
  ·have hv':(v1 != 2)=true:=by simpa using hv
   have hv'':(v1==2)=false:=(by simpa using hv);rw[hv',Bool.true_or];clear hv;have HB:=aB hB;clear hB;go_enter func51,ntmps51;go_wp2_with fail;refine(HB.o _).mono ?_;rintro e w1 ⟨rfl,hb1⟩;have hX1:=(hb1.block w.heap.size aa).trans (aN w _);obtain⟨⟨e0,e1,e2,e3,e4,e5,e6,e7⟩,-⟩:=eight hX1;have hlt:=(aC.1 hX1).1;have HBL:=aB (((Bl.refl w).alloc _).call hb1);clear hb1;go_wp2_with fail;refine(HC.o _).mono ?_;rintro e w2 ⟨rfl,hb2⟩;have HB2:=aB ((HBL.o.alloc _).call hb2);have hX2:=(((Bl.refl w1).alloc _).call hb2).block _ hlt |>.trans hX1
   obtain⟨⟨i0,i1,i2,i3,i4,i5,i6,i7⟩,-⟩:=eight hX2;clear e0 e1 e2 e3 e4 e5 e6 e7 hb2;go_wp2;go_ret;exact⟨rfl,HB2.o⟩
 ·have hz':(z==0)=false:=by simpa using hz0
  rw[hz',pK];clear hz0;have HB:=aB hB;clear hB;go_enter func51,ntmps51;go_wp2_with fail;refine(HB.o _).mono ?_;rintro e w1 ⟨rfl,hb1⟩;have hX1:=(hb1.block w.heap.size aa).trans (aN w _);obtain⟨⟨e0,e1,e2,e3,e4,e5,e6,e7⟩,-⟩:=eight hX1;have hlt:=(aC.1 hX1).1;have HBL:=aB (((Bl.refl w).alloc _).call hb1);clear hb1;go_wp2_with fail;refine(HC.o _).mono ?_;rintro e w2 ⟨rfl,hb2⟩;have HB2:=aB ((HBL.o.alloc _).call hb2);go_wp2;go_ret;exact⟨rfl,HB2.o⟩
theorem c0i{v1 v2 o:Int}{v3 t n:List UInt8}{a a2:Option Addr}{m c c2:Nat}(hlt:t.length<=9223372036854775807)(hln:n.length<=9223372036854775807)(hB:∀w,cL 79 #[EV 2 (v1,v2,v3) t n o (.slice a m c)] w fun e w'=>e= .returned (EV 2 (v1,v2,v3) t n o (.slice a2 m c2))/\Bl w w')(w:World)(hG:nD w):
  cL 51 #[EV 2 (v1,v2,v3) t n o (.slice a m c)] w fun e w'=>e= .returned (.bool (mO n&&(t==[]||mO t)))/\Bl w w':=by
 have HG:=aB hG;obtain⟨bn,hbn⟩:∃b,Hid (mO n=b):=⟨_,rfl⟩
 obtain⟨bt,hbt⟩:∃b,Hid (mO t=b):=⟨_,rfl⟩
 have HN:Hid (∀w,nD w->cL 80 #[S n] w fun e w'=>e= .returned (.bool bn)/\Bl w w'):=fun w hG=>(by rw[<-hbn.o];exact a6g n hln w hG);have HT:Hid (∀w,nD w->cL 80 #[S t] w fun e w'=>e= .returned (.bool bt)/\Bl w w'):=fun w hG=>(by rw[<-hbt.o];exact a6g t hlt w hG);rw[hbn.o,hbt.o];clear hG hlt hln;cases bn
 ·rw[pK];have HB:=aB hB;clear hB;go_enter func51,ntmps51;go_wp2_with fail;refine(HB.o _).mono ?_;rintro e w1 ⟨rfl,hb1⟩;have hX1:=(hb1.block w.heap.size aa).trans (aN w _);obtain⟨⟨e0,e1,e2,e3,e4,e5,e6,e7⟩,-⟩:=eight hX1;have hlt:=(aC.1 hX1).1;have HBL:=aB (((Bl.refl w).alloc _).call hb1);clear hb1;go_wp2_with fail;refine(HN.o _ (HG.o.bl (HBL.o.alloc _))).mono ?_;rintro e w2 ⟨rfl,hb2⟩;have HB2:=aB ((HBL.o.alloc _).call hb2);go_wp2;go_ret;exact⟨rfl,HB2.o⟩
 ·rw[rC];by_cases ht:t=[]
  ·subst ht;have HB:=aB hB;clear hB;go_enter func51,ntmps51;go_wp2_with fail;refine(HB.o _).mono ?_;rintro e w1 ⟨rfl,hb1⟩;have hX1:=(hb1.block w.heap.size aa).trans (aN w _);obtain⟨⟨e0,e1,e2,e3,e4,e5,e6,e7⟩,-⟩:=eight hX1;have hlt:=(aC.1 hX1).1;have HBL:=aB (((Bl.refl w).alloc _).call hb1);clear hb1;go_wp2_with fail;refine(HN.o _ (HG.o.bl (HBL.o.alloc _))).mono ?_;rintro e w2 ⟨rfl,hb2⟩;have HB2:=aB ((HBL.o.alloc _).call hb2);have hX2:=(((Bl.refl w1).alloc _).call hb2).block _ hlt |>.trans hX1
   obtain⟨⟨i0,i1,i2,i3,i4,i5,i6,i7⟩,-⟩:=eight hX2;clear e0 e1 e2 e3 e4 e5 e6 e7 hb2;go_wp2;go_ret;exact⟨rfl,HB2.o⟩
  ·have ht':(t==[])=false:=by simpa using ht
   rw[ht',Bool.false_or];clear ht;have HB:=aB hB;clear hB;go_enter func51,ntmps51;go_wp2_with fail;refine(HB.o _).mono ?_;rintro e w1 ⟨rfl,hb1⟩;have hX1:=(hb1.block w.heap.size aa).trans (aN w _);obtain⟨⟨e0,e1,e2,e3,e4,e5,e6,e7⟩,-⟩:=eight hX1;have hlt:=(aC.1 hX1).1;have HBL:=aB (((Bl.refl w).alloc _).call hb1);clear hb1;go_wp2_with fail;refine(HN.o _ (HG.o.bl (HBL.o.alloc _))).mono ?_;rintro e w2 ⟨rfl,hb2⟩;have HB2:=aB ((HBL.o.alloc _).call hb2);have hX2:=(((Bl.refl w1).alloc _).call hb2).block _ hlt |>.trans hX1
   obtain⟨⟨i0,i1,i2,i3,i4,i5,i6,i7⟩,-⟩:=eight hX2;clear e0 e1 e2 e3 e4 e5 e6 e7 hb2;go_wp2_with fail;refine(HT.o _ (HG.o.bl HB2.o)).mono ?_;rintro e w3 ⟨rfl,hb3⟩;go_wp2;go_ret;exact⟨rfl,HB2.o.call hb3⟩
theorem c0h{v1 v2 o:Int}{v3 t n:List UInt8}{a a2:Option Addr}{m c c2:Nat}(hB:∀w,cL 79 #[EV 3 (v1,v2,v3) t n o (.slice a m c)] w fun e w'=>e= .returned (EV 3 (v1,v2,v3) t n o (.slice a2 m c2))/\Bl w w')(w:World):
  cL 51 #[EV 3 (v1,v2,v3) t n o (.slice a m c)] w fun e w'=>e= .returned (.bool (decide (1<=o/\o<=20)&&m==fJ o))/\Bl w w':=by
 by_cases ho:1<=o/\o<=20
 ·rw[decide_eq_true ho,rC];have HO:=aB ho;obtain⟨b,hb⟩:∃b,Hid ((m==fJ o)=b):=⟨_,rfl⟩
  have hbi:((m:Int)==(fJ o:Int))=b:=by
   rw[<-hb.o];cases h:(m==fJ o)
   ·have:m≠fJ o:=by simpa using h
    simp;omega
   ·have:m=fJ o:=by simpa using h
    simp;omega
  rw[hb.o];clear ho;have HB:=aB hB;clear hB;go_enter func51,ntmps51;go_wp2_with fail;refine(HB.o _).mono ?_;rintro e w1 ⟨rfl,hb1⟩;have hX1:=(hb1.block w.heap.size aa).trans (aN w _);obtain⟨⟨e0,e1,e2,e3,e4,e5,e6,e7⟩,-⟩:=eight hX1;have hlt:=(aC.1 hX1).1;have HBL:=aB (((Bl.refl w).alloc _).call hb1);clear hb1;go_wp2_with fail
  (with_reducible refine(uR o HO.o _).mono ?_)
  rintro e w2 ⟨rfl,hb2⟩;have HB2:=aB ((HBL.o.alloc _).call hb2);have hX2:=(((Bl.refl w1).alloc _).call hb2).block _ hlt |>.trans hX1
  have hlt2:=(aC.1 hX2).1;obtain⟨⟨i0,i1,i2,i3,i4,i5,i6,i7⟩,-⟩:=eight hX2;clear e0 e1 e2 e3 e4 e5 e6 e7 hb2;go_wp2;go_ret;exact⟨rfl,HB2.o.alloc _⟩
 ·rw[decide_eq_false ho,pK];have HO:=aB ho;clear ho;have HB:=aB hB;clear hB;go_enter func51,ntmps51;go_wp2_with fail;refine(HB.o _).mono ?_;rintro e w1 ⟨rfl,hb1⟩;have hX1:=(hb1.block w.heap.size aa).trans (aN w _);obtain⟨⟨e0,e1,e2,e3,e4,e5,e6,e7⟩,-⟩:=eight hX1;have hlt:=(aC.1 hX1).1;have HBL:=aB (((Bl.refl w).alloc _).call hb1);clear hb1;go_wp2_with fail
  (with_reducible refine(b4z o HO.o _).mono ?_)
  rintro e w2 ⟨rfl,hb2⟩;have HB2:=aB ((HBL.o.alloc _).call hb2);go_wp2;go_ret;exact⟨rfl,HB2.o.alloc _⟩
theorem c0g{v1 v2 o:Int}{v3 t n:List UInt8}{a a2:Option Addr}{m c c2:Nat}(hB:∀w,cL 79 #[EV 4 (v1,v2,v3) t n o (.slice a m c)] w fun e w'=>e= .returned (EV 4 (v1,v2,v3) t n o (.slice a2 m c2))/\Bl w w')(w:World):
  cL 51 #[EV 4 (v1,v2,v3) t n o (.slice a m c)] w fun e w'=>e= .returned (.bool (decide (0<m)))/\Bl w w':=by
 have hd:decide (0<m)=decide ((0:Int)<(m:Int)):=aa;rw[hd];have HB:=aB hB;clear hB;go_enter func51,ntmps51;go_wp2_with fail;refine(HB.o _).mono ?_;rintro e w1 ⟨rfl,hb1⟩;have hX1:=(hb1.block w.heap.size aa).trans (aN w _);obtain⟨⟨e0,e1,e2,e3,e4,e5,e6,e7⟩,-⟩:=eight hX1;have hlt:=(aC.1 hX1).1;have HBL:=aB (((Bl.refl w).alloc _).call hb1);clear hb1;go_wp2;go_ret;exact⟨rfl,HBL.o.alloc _⟩
theorem c0f{k v1 v2 o:Int}{v3 t n:List UInt8}{a a2:Option Addr}{m c c2:Nat}(hk:k≠1/\k≠2/\k≠3/\k≠4/\k≠5)(hB:∀w,cL 79 #[EV k (v1,v2,v3) t n o (.slice a m c)] w fun e w'=>e= .returned (EV k (v1,v2,v3) t n o (.slice a2 m c2))/\Bl w w')(w:World):
  cL 51 #[EV k (v1,v2,v3) t n o (.slice a m c)] w fun e w'=>e= .returned (.bool false)/\Bl w w':=by
 obtain⟨h1,h2,h3,h4,h5⟩:=hk;have b1:(k==1)=false:=az;have b2:(k==2)=false:=bc;have b3:(k==3)=false:=bh;have b4:(k==4)=false:=br;have b5:(k==5)=false:=(by simpa using h5);clear h1 h2 h3 h4 h5;have HB:=aB hB;clear hB;go_enter func51,ntmps51;go_wp2_with fail;refine(HB.o _).mono ?_;rintro e w1 ⟨rfl,hb1⟩;have hX1:=(hb1.block w.heap.size aa).trans (aN w _);obtain⟨⟨e0,e1,e2,e3,e4,e5,e6,e7⟩,-⟩:=eight hX1;have hlt:=(aC.1 hX1).1;have HBL:=aB (((Bl.refl w).alloc _).call hb1);clear hb1;go_wp2;go_ret;exact⟨rfl,HBL.o.alloc _⟩
end
section
theorem b6x{v1 v2 o:Int}{v3 t n:List UInt8}{a a2:Option Addr}{m c c2:Nat}(hn:gP.contains n=false)(hB:∀w,cL 79 #[EV 5 (v1,v2,v3) t n o (.slice a m c)] w fun e w'=>e= .returned (EV 5 (v1,v2,v3) t n o (.slice a2 m c2))/\Bl w w')(w:World):
  cL 51 #[EV 5 (v1,v2,v3) t n o (.slice a m c)] w fun e w'=>e= .returned (.bool false)/\Bl w w':=by
 have HB:=aB hB;clear hB;go_enter func51,ntmps51;go_wp2_with fail;refine(HB.o _).mono ?_;rintro e w1 ⟨rfl,hb1⟩;have hX1:=(hb1.block w.heap.size aa).trans (aN w _);obtain⟨⟨e0,e1,e2,e3,e4,e5,e6,e7⟩,-⟩:=eight hX1;have hlt:=(aC.1 hX1).1;have HBL:=aB (((Bl.refl w).alloc _).call hb1);clear hb1;go_wp2_with fail;have hX2:=((Bl.refl w1).alloc (.cells #[.int .i64 5,.int .i64 v1,.int .i64 v2,S v3,S t,S n,.int .i64 o,.slice a2 m c2] 47)).block _ hlt |>.trans hX1
 have HX2:=aB hX2;have HB2:=aB (HBL.o.alloc (.cells #[.int .i64 5,.int .i64 v1,.int .i64 v2,S v3,S t,S n,.int .i64 o,.slice a2 m c2] 47));clear e0 e1 e2 e3 e4 e5 e6 e7 hX1 hX2;generalize w1.alloc (.cells #[.int .i64 5,.int .i64 v1,.int .i64 v2,S v3,S t,S n,.int .i64 o,.slice a2 m c2] 47)=w2 at *;refine wp_region_noPanic (bM (fun B=>B.heap[w.heap.size]?=some (.cells #[.int .i64 5,.int .i64 v1,.int .i64 v2,S v3,S t,S n,.int .i64 o,.slice a m c] 47 (0,0))) ((.take 1 (.take 2 (.one 0 (.one 3 (.take 4 (.take 5 (.take 6 (.take 7 (.take 8 (.take 9 (.take 10 (.take 11 (.take 12 (.take 13 (.take 14 (.take 15 (.take 16 (.take 17 (.take 18 (.take 19 (.take 20 (.take 21 (.take 22 (.take 23 (.take 24 .done)))))))))))))))))))))))))) ae ae ae (fun _ _ _ _ _ h=>h) (HX2.o) ?_);intro wd HWD hY;iterate 2 (refine cT ?_)
 refine aL rfl (fun K hK=>?_);go_simp;((with_reducible refine(kU _).mono ?_);rintro e w3 ⟨rfl,rfl⟩);go_wp2_with fail;refine hK.o _ _ (aw) ?_;clear hY hK K;intro hY;refine aL rfl (fun K hK=>?_);go_simp;(refine(kN (aN wd _) n).mono ?_;rintro e w4 ⟨rfl,rfl⟩;rw[hn]);go_wp2_with fail;refine hK.o _ _ (aw) ?_;clear hY hK K;intro hY;refine cT ?_;refine dK rfl ac ?_;(try simp only[aK,aA,aD,aF])
 refine dK rfl ac ?_;(try simp only[aK,aA,aD,aF])
 refine dK rfl ac ?_;(try simp only[aK,aA,aD,aF])
 refine dK rfl ac ?_;(try simp only[aK,aA,aD,aF])
 refine dK rfl ac ?_;(try simp only[aK,aA,aD,aF])
 refine dK rfl ac ?_;(try simp only[aK,aA,aD,aF])
 refine dK rfl ac ?_;(try simp only[aK,aA,aD,aF])
 refine dK rfl ac ?_;(try simp only[aK,aA,aD,aF])
 refine dK rfl ac ?_;(try simp only[aK,aA,aD,aF])
 refine dK rfl ac ?_;(try simp only[aK,aA,aD,aF])
 refine dK rfl ac ?_;(try simp only[aK,aA,aD,aF])
 refine dK rfl ac ?_;(try simp only[aK,aA,aD,aF])
 refine dK rfl ac ?_;(try simp only[aK,aA,aD,aF])
 refine dK rfl ac ?_;(try simp only[aK,aA,aD,aF])
 refine dK rfl ac ?_;(try simp only[aK,aA,aD,aF])
 refine dK rfl ac ?_;(try simp only[aK,aA,aD,aF])
 refine dK rfl ac ?_;(try simp only[aK,aA,aD,aF])
 refine dK rfl ac ?_;(try simp only[aK,aA,aD,aF])
 iterate 2 (refine cT ?_)
 refine fO (bF ?_);go_wp2;go_ret;exact⟨rfl,(HB2.o.call HWD.o).alloc _⟩
theorem b6w{v1 v2 o:Int}{v3 t n:List UInt8}{a a2:Option Addr}{c c2:Nat}(hn:gP.contains n=true)(hB:∀w,cL 79 #[EV 5 (v1,v2,v3) t n o (.slice a 1 c)] w fun e w'=>e= .returned (EV 5 (v1,v2,v3) t n o (.slice a2 1 c2))/\Bl w w')(w:World):
  cL 51 #[EV 5 (v1,v2,v3) t n o (.slice a 1 c)] w fun e w'=>e= .returned (.bool true)/\Bl w w':=by
 have HB:=aB hB;clear hB;go_enter func51,ntmps51;go_wp2_with fail;refine(HB.o _).mono ?_;rintro e w1 ⟨rfl,hb1⟩;have hX1:=(hb1.block w.heap.size aa).trans (aN w _);obtain⟨⟨e0,e1,e2,e3,e4,e5,e6,e7⟩,-⟩:=eight hX1;have hlt:=(aC.1 hX1).1;have HBL:=aB (((Bl.refl w).alloc _).call hb1);clear hb1;go_wp2_with fail;have hX2:=((Bl.refl w1).alloc (.cells #[.int .i64 5,.int .i64 v1,.int .i64 v2,S v3,S t,S n,.int .i64 o,.slice a2 1 c2] 47)).block _ hlt |>.trans hX1
 have HX2:=aB hX2;have HB2:=aB (HBL.o.alloc (.cells #[.int .i64 5,.int .i64 v1,.int .i64 v2,S v3,S t,S n,.int .i64 o,.slice a2 1 c2] 47));clear e0 e1 e2 e3 e4 e5 e6 e7 hX1 hX2;generalize w1.alloc (.cells #[.int .i64 5,.int .i64 v1,.int .i64 v2,S v3,S t,S n,.int .i64 o,.slice a2 1 c2] 47)=w2 at *;refine wp_region_noPanic (bM (fun B=>B.heap[w.heap.size]?=some (.cells #[.int .i64 5,.int .i64 v1,.int .i64 v2,S v3,S t,S n,.int .i64 o,.slice a 1 c] 47 (0,0))) ((.take 1 (.take 2 (.one 0 (.one 3 (.take 4 (.take 5 (.take 6 (.one 7 (.take 8 (.take 9 (.take 10 (.take 11 (.take 12 (.take 13 (.take 14 (.take 15 (.take 16 (.take 17 (.take 18 (.take 19 (.take 20 (.take 21 (.take 22 (.take 23 (.take 24 .done)))))))))))))))))))))))))) ae ae ae (fun _ _ _ _ _ h=>h) (HX2.o) ?_);intro wd HWD hY;iterate 2 (refine cT ?_)
 refine aL rfl (fun K hK=>?_);go_simp;((with_reducible refine(kU _).mono ?_);rintro e w3 ⟨rfl,rfl⟩);go_wp2_with fail;refine hK.o _ _ (aw) ?_;clear hY hK K;intro hY;refine aL rfl (fun K hK=>?_);go_simp;(refine(kN (aN wd _) n).mono ?_;rintro e w4 ⟨rfl,rfl⟩;rw[hn]);go_wp2_with fail;refine hK.o _ _ (aw) ?_;clear hY hK K;intro hY;iterate 3 (refine cT ?_)
 refine aL rfl (fun K hK=>?_);go_simp;refine hK.o _ _ (hY) ?_;clear hY hK K;intro hY;iterate 2 (refine cT ?_)
 refine dK rfl ac ?_;(try simp only[aK,aA,aD,aF])
 refine dK rfl ac ?_;(try simp only[aK,aA,aD,aF])
 refine dK rfl ac ?_;(try simp only[aK,aA,aD,aF])
 refine dK rfl ac ?_;(try simp only[aK,aA,aD,aF])
 refine dK rfl ac ?_;(try simp only[aK,aA,aD,aF])
 refine dK rfl ac ?_;(try simp only[aK,aA,aD,aF])
 refine dK rfl ac ?_;(try simp only[aK,aA,aD,aF])
 refine dK rfl ac ?_;(try simp only[aK,aA,aD,aF])
 refine dK rfl ac ?_;(try simp only[aK,aA,aD,aF])
 refine dK rfl ac ?_;(try simp only[aK,aA,aD,aF])
 refine dK rfl ac ?_;(try simp only[aK,aA,aD,aF])
 refine dK rfl ac ?_;(try simp only[aK,aA,aD,aF])
 iterate 3 (refine cT ?_)
 refine fO (bF ?_);go_wp2;go_ret;exact⟨rfl,(HB2.o.call HWD.o).alloc _⟩
theorem b6u{v1 v2 o:Int}{v3 t n:List UInt8}{a a2:Option Addr}{m c c2:Nat}(hn:gP.contains n=true)(hB:∀w,cL 79 #[EV 5 (v1,v2,v3) t n o (.slice a (m+2) c)] w fun e w'=>e= .returned (EV 5 (v1,v2,v3) t n o (.slice a2 (m+2) c2))/\Bl w w')(w:World):
  cL 51 #[EV 5 (v1,v2,v3) t n o (.slice a (m+2) c)] w fun e w'=>e= .returned (.bool false)/\Bl w w':=by
 have HB:=aB hB;clear hB;go_enter func51,ntmps51;go_wp2_with fail;refine(HB.o _).mono ?_;rintro e w1 ⟨rfl,hb1⟩;have hX1:=(hb1.block w.heap.size aa).trans (aN w _);obtain⟨⟨e0,e1,e2,e3,e4,e5,e6,e7⟩,-⟩:=eight hX1;have hlt:=(aC.1 hX1).1;have HBL:=aB (((Bl.refl w).alloc _).call hb1);clear hb1;go_wp2_with fail;have hX2:=((Bl.refl w1).alloc (.cells #[.int .i64 5,.int .i64 v1,.int .i64 v2,S v3,S t,S n,.int .i64 o,.slice a2 (m+2) c2] 47)).block _ hlt |>.trans hX1
 have HX2:=aB hX2;have HB2:=aB (HBL.o.alloc (.cells #[.int .i64 5,.int .i64 v1,.int .i64 v2,S v3,S t,S n,.int .i64 o,.slice a2 (m+2) c2] 47));clear e0 e1 e2 e3 e4 e5 e6 e7 hX1 hX2;generalize w1.alloc (.cells #[.int .i64 5,.int .i64 v1,.int .i64 v2,S v3,S t,S n,.int .i64 o,.slice a2 (m+2) c2] 47)=w2 at *;refine wp_region_noPanic (bM (fun B=>B.heap[w.heap.size]?=some (.cells #[.int .i64 5,.int .i64 v1,.int .i64 v2,S v3,S t,S n,.int .i64 o,.slice a (m+2) c] 47 (0,0))) ((.take 1 (.take 2 (.one 0 (.one 3 (.take 4 (.take 5 (.take 6 (.one 7 (.take 8 (.take 9 (.take 10 (.take 11 (.one 12 (.take 13 (.take 14 (.take 15 (.take 16 (.take 17 (.take 18 (.take 19 (.take 20 (.take 21 (.take 22 (.take 23 (.take 24 .done)))))))))))))))))))))))))) ae ae ae (fun _ _ _ _ _ h=>h) (HX2.o) ?_);intro wd HWD hY;iterate 2 (refine cT ?_)
 refine aL rfl (fun K hK=>?_);go_simp;((with_reducible refine(kU _).mono ?_);rintro e w3 ⟨rfl,rfl⟩);go_wp2_with fail;refine hK.o _ _ (aw) ?_;clear hY hK K;intro hY;refine aL rfl (fun K hK=>?_);go_simp;(refine(kN (aN wd _) n).mono ?_;rintro e w4 ⟨rfl,rfl⟩;rw[hn]);go_wp2_with fail;refine hK.o _ _ (aw) ?_;clear hY hK K;intro hY;iterate 3 (refine cT ?_)
 refine aL rfl (fun K hK=>?_);go_simp;refine hK.o _ _ (hY) ?_;clear hY hK K;intro hY;iterate 4 (refine cT ?_)
 refine aL rfl (fun K hK=>?_);go_simp;refine hK.o _ _ (hY) ?_;clear hY hK K;intro hY;iterate 2 (refine cT ?_)
 refine dK rfl ac ?_;(try simp only[aK,aA,aD,aF])
 refine dK rfl ac ?_;(try simp only[aK,aA,aD,aF])
 refine dK rfl ac ?_;(try simp only[aK,aA,aD,aF])
 refine dK rfl ac ?_;(try simp only[aK,aA,aD,aF])
 refine dK rfl ac ?_;(try simp only[aK,aA,aD,aF])
 refine dK rfl ac ?_;(try simp only[aK,aA,aD,aF])
 iterate 4 (refine cT ?_)
 refine fO (bF ?_);go_wp2;go_ret;exact⟨rfl,(HB2.o.call HWD.o).alloc _⟩
theorem b6v{v1 v2 o:Int}{v3 t:List UInt8}{a a2:Option Addr}{c c2:Nat}(hn:gP.contains gX=true)(hB:∀w,cL 79 #[EV 5 (v1,v2,v3) t gX o (.slice a 0 c)] w fun e w'=>e= .returned (EV 5 (v1,v2,v3) t gX o (.slice a2 0 c2))/\Bl w w')(w:World):
  cL 51 #[EV 5 (v1,v2,v3) t gX o (.slice a 0 c)] w fun e w'=>e= .returned (.bool true)/\Bl w w':=by
 have HB:=aB hB;clear hB;go_enter func51,ntmps51;go_wp2_with fail;refine(HB.o _).mono ?_;rintro e w1 ⟨rfl,hb1⟩;have hX1:=(hb1.block w.heap.size aa).trans (aN w _);obtain⟨⟨e0,e1,e2,e3,e4,e5,e6,e7⟩,-⟩:=eight hX1;have hlt:=(aC.1 hX1).1;have HBL:=aB (((Bl.refl w).alloc _).call hb1);clear hb1;go_wp2_with fail;have hX2:=((Bl.refl w1).alloc (.cells #[.int .i64 5,.int .i64 v1,.int .i64 v2,S v3,S t,S gX,.int .i64 o,.slice a2 0 c2] 47)).block _ hlt |>.trans hX1
 have HX2:=aB hX2;have HB2:=aB (HBL.o.alloc (.cells #[.int .i64 5,.int .i64 v1,.int .i64 v2,S v3,S t,S gX,.int .i64 o,.slice a2 0 c2] 47));clear e0 e1 e2 e3 e4 e5 e6 e7 hX1 hX2;generalize w1.alloc (.cells #[.int .i64 5,.int .i64 v1,.int .i64 v2,S v3,S t,S gX,.int .i64 o,.slice a2 0 c2] 47)=w2 at *;refine wp_region_noPanic (bM (fun B=>B.heap[w.heap.size]?=some (.cells #[.int .i64 5,.int .i64 v1,.int .i64 v2,S v3,S t,S gX,.int .i64 o,.slice a 0 c] 47 (0,0))) ((.take 1 (.take 2 (.one 0 (.one 3 (.take 4 (.take 5 (.take 6 (.one 7 (.take 8 (.take 9 (.take 10 (.take 11 (.one 12 (.take 13 (.take 14 (.take 15 (.take 16 (.one 17 (.take 18 (.one 19 (.take 20 (.take 21 (.take 22 (.take 23 (.take 24 .done)))))))))))))))))))))))))) ae ae ae (fun _ _ _ _ _ h=>h) (HX2.o) ?_);intro wd HWD hY;iterate 2 (refine cT ?_)
 refine aL rfl (fun K hK=>?_);go_simp;((with_reducible refine(kU _).mono ?_);rintro e w3 ⟨rfl,rfl⟩);go_wp2_with fail;refine hK.o _ _ (aw) ?_;clear hY hK K;intro hY;refine aL rfl (fun K hK=>?_);go_simp;(refine(kN (aN wd _) gX).mono ?_;rintro e w4 ⟨rfl,rfl⟩;rw[hn]);go_wp2_with fail;refine hK.o _ _ (aw) ?_;clear hY hK K;intro hY;iterate 3 (refine cT ?_)
 refine aL rfl (fun K hK=>?_);go_simp;refine hK.o _ _ (hY) ?_;clear hY hK K;intro hY;iterate 4 (refine cT ?_)
 refine aL rfl (fun K hK=>?_);go_simp;refine hK.o _ _ (hY) ?_;clear hY hK K;intro hY;iterate 4 (refine cT ?_)
 refine aL rfl (fun K hK=>?_);go_simp;((with_reducible refine(kU _).mono ?_);rintro e w5 ⟨rfl,rfl⟩);go_wp2_with fail;refine hK.o _ _ (aw) ?_;clear hY hK K;intro hY;refine cT ?_;refine aL rfl (fun K hK=>?_);go_simp;refine hK.o _ _ (hY) ?_;clear hY hK K;intro hY;iterate 5 (refine cT ?_)
 refine fO (bF ?_);go_wp2;go_ret;exact⟨rfl,((HB2.o.call HWD.o).alloc _).alloc _⟩
theorem b6t{v1 v2 o:Int}{v3 t n:List UInt8}{a a2:Option Addr}{c c2:Nat}(hn:gP.contains n=true)(hc:(n==gX)=false)(hB:∀w,cL 79 #[EV 5 (v1,v2,v3) t n o (.slice a 0 c)] w fun e w'=>e= .returned (EV 5 (v1,v2,v3) t n o (.slice a2 0 c2))/\Bl w w')(w:World):
  cL 51 #[EV 5 (v1,v2,v3) t n o (.slice a 0 c)] w fun e w'=>e= .returned (.bool false)/\Bl w w':=by
 have HB:=aB hB;clear hB;go_enter func51,ntmps51;go_wp2_with fail;refine(HB.o _).mono ?_;rintro e w1 ⟨rfl,hb1⟩;have hX1:=(hb1.block w.heap.size aa).trans (aN w _);obtain⟨⟨e0,e1,e2,e3,e4,e5,e6,e7⟩,-⟩:=eight hX1;have hlt:=(aC.1 hX1).1;have HBL:=aB (((Bl.refl w).alloc _).call hb1);clear hb1;go_wp2_with fail;have hX2:=((Bl.refl w1).alloc (.cells #[.int .i64 5,.int .i64 v1,.int .i64 v2,S v3,S t,S n,.int .i64 o,.slice a2 0 c2] 47)).block _ hlt |>.trans hX1
 have HX2:=aB hX2;have HB2:=aB (HBL.o.alloc (.cells #[.int .i64 5,.int .i64 v1,.int .i64 v2,S v3,S t,S n,.int .i64 o,.slice a2 0 c2] 47));clear e0 e1 e2 e3 e4 e5 e6 e7 hX1 hX2;generalize w1.alloc (.cells #[.int .i64 5,.int .i64 v1,.int .i64 v2,S v3,S t,S n,.int .i64 o,.slice a2 0 c2] 47)=w2 at *;refine wp_region_noPanic (bM (fun B=>B.heap[w.heap.size]?=some (.cells #[.int .i64 5,.int .i64 v1,.int .i64 v2,S v3,S t,S n,.int .i64 o,.slice a 0 c] 47 (0,0))) ((.take 1 (.take 2 (.one 0 (.one 3 (.take 4 (.take 5 (.take 6 (.one 7 (.take 8 (.take 9 (.take 10 (.take 11 (.one 12 (.take 13 (.take 14 (.take 15 (.take 16 (.one 17 (.take 18 (.one 19 (.take 20 (.take 21 (.take 22 (.take 23 (.take 24 .done)))))))))))))))))))))))))) ae ae ae (fun _ _ _ _ _ h=>h) (HX2.o) ?_);intro wd HWD hY;iterate 2 (refine cT ?_)
 refine aL rfl (fun K hK=>?_);go_simp;((with_reducible refine(kU _).mono ?_);rintro e w3 ⟨rfl,rfl⟩);go_wp2_with fail;refine hK.o _ _ (aw) ?_;clear hY hK K;intro hY;refine aL rfl (fun K hK=>?_);go_simp;(refine(kN (aN wd _) n).mono ?_;rintro e w4 ⟨rfl,rfl⟩;rw[hn]);go_wp2_with fail;refine hK.o _ _ (aw) ?_;clear hY hK K;intro hY;iterate 3 (refine cT ?_)
 refine aL rfl (fun K hK=>?_);go_simp;refine hK.o _ _ (hY) ?_;clear hY hK K;intro hY;iterate 4 (refine cT ?_)
 refine aL rfl (fun K hK=>?_);go_simp;refine hK.o _ _ (hY) ?_;clear hY hK K;intro hY;iterate 4 (refine cT ?_)
 refine aL rfl (fun K hK=>?_);go_simp;((with_reducible refine(kU _).mono ?_);rintro e w5 ⟨rfl,rfl⟩);go_wp2_with fail;refine hK.o _ _ (aw) ?_;clear hY hK K;intro hY;refine cT ?_;refine aL rfl (fun K hK=>?_);go_simp;refine hK.o _ _ (hY) ?_;clear hY hK K;intro hY;iterate 5 (refine cT ?_)
 refine fO (bF ?_);go_wp2;go_ret;exact⟨rfl,((HB2.o.call HWD.o).alloc _).alloc _⟩
end
section
theorem wT{b:Bool}(h:b=true->False):b=false:=by
 cases b
 ·rfl
 ·exact absurd rfl h
theorem a2m(k v1 v2 o:Int)(v3 t n:List UInt8)(a:Option Addr)(args:List Ex)(c:Nat)(hlt:t.length<=9223372036854775807)(hln:n.length<=9223372036854775807)(w:World)(hG:nD w):
  cL 51 #[EV k (v1,v2,v3) t n o (.slice a args.length c)] w fun e w'=>e= .returned (.bool (dV k (v1,v2,v3) t n o args))/\Bl w w':=by
 have hnil:∀l:List Ex,0=l.length->l=[]:=fun l h=>lM h.symm;by_cases h1:k=1
 ·subst h1;have hB:∀w,cL 79 #[EV 1 (v1,v2,v3) t n o (.slice a args.length c)] w fun e w'=>e= .returned (EV 1 (v1,v2,v3) [] [] 0 (.slice none 0 0))/\Bl w w':=fun w=>rT 1 v1 v2 o v3 t n a args.length c w;by_cases hm:t=[]/\n=[]/\o=0/\args=[]
  ·obtain⟨rfl,rfl,rfl,rfl⟩:=hm;have h:=c0j (m:=0) hB w;rw[show dV 1 (v1,v2,v3) [] [] 0 []=((chk v1 v2 v3==0)&&(v1 != 2||decide (0<=v2))) by simp[dV]];exact h
  ·rw[wT (b:=dV 1 (v1,v2,v3) t n o args) fun hh=>by
    simp only[dV,if_true,aQ,beq_iff_eq,iZ] at hh;exact hm ⟨hh.1.1.1.1.1,hh.1.1.1.1.2,hh.1.1.1.2,hh.1.1.2⟩]
   exact pQ hB (by rintro⟨-,-,-,h4,h5,h6,h7⟩;exact hm ⟨h4.symm,h5.symm,h6.symm,hnil _ h7⟩) w
 by_cases h2:k=2
 ·subst h2;have hB:∀w,cL 79 #[EV 2 (v1,v2,v3) t n o (.slice a args.length c)] w fun e w'=>e= .returned (EV 2 (0,0,[]) t n 0 (.slice none 0 0))/\Bl w w':=fun w=>rT 2 v1 v2 o v3 t n a args.length c w;by_cases hm:v1=0/\v2=0/\v3=[]/\o=0/\args=[]
  ·obtain⟨rfl,rfl,rfl,rfl,rfl⟩:=hm;have h:=c0i (m:=0) hlt hln hB w hG;rw[show dV 2 (0,0,[]) t n 0 []=(mO n&&(t==[]||mO t)) by simp[dV]];exact h
  ·rw[wT (b:=dV 2 (v1,v2,v3) t n o args) fun hh=>by
    simp only[dV,show ¬(2:Int)=1 by decide,if_false,if_true,aQ,beq_iff_eq,iZ,Prod.mk.injEq] at hh;exact hm ⟨hh.1.1.1.1.1,hh.1.1.1.1.2.1,hh.1.1.1.1.2.2,hh.1.1.1.2,hh.1.1.2⟩]
   exact pQ hB (by rintro⟨h1,h2,h3,-,-,h6,h7⟩;exact hm ⟨h1.symm,h2.symm,h3.symm,h6.symm,hnil _ h7⟩) w
 by_cases h3:k=3
 ·subst h3;have hB:∀w,cL 79 #[EV 3 (v1,v2,v3) t n o (.slice a args.length c)] w fun e w'=>e= .returned (EV 3 (0,0,[]) [] [] o (.slice a args.length c))/\Bl w w':=fun w=>rT 3 v1 v2 o v3 t n a args.length c w;by_cases hm:v1=0/\v2=0/\v3=[]/\t=[]/\n=[]
  ·obtain⟨rfl,rfl,rfl,rfl,rfl⟩:=hm;have h:=c0h hB w;rw[show dV 3 (0,0,[]) [] [] o args=(decide (1<=o/\o<=20)&&args.length==fJ o) by simp[dV]];exact h
  ·rw[wT (b:=dV 3 (v1,v2,v3) t n o args) fun hh=>by
    simp only[dV,show ¬(3:Int)=1 by decide,show ¬(3:Int)=2 by decide,if_false,if_true,aQ,beq_iff_eq,Prod.mk.injEq] at hh;exact hm ⟨hh.1.1.1.1.1,hh.1.1.1.1.2.1,hh.1.1.1.1.2.2,hh.1.1.1.2,hh.1.1.2⟩]
   exact pQ hB (by rintro⟨h1,h2,h3,h4,h5,-,-⟩;exact hm ⟨h1.symm,h2.symm,h3.symm,h4.symm,h5.symm⟩) w
 by_cases h4:k=4
 ·subst h4;have hB:∀w,cL 79 #[EV 4 (v1,v2,v3) t n o (.slice a args.length c)] w fun e w'=>e= .returned (EV 4 (0,0,[]) [] [] 0 (.slice a args.length c))/\Bl w w':=fun w=>rT 4 v1 v2 o v3 t n a args.length c w;by_cases hm:v1=0/\v2=0/\v3=[]/\t=[]/\n=[]/\o=0
  ·obtain⟨rfl,rfl,rfl,rfl,rfl,rfl⟩:=hm;have h:=c0g hB w;rw[show dV 4 (0,0,[]) [] [] 0 args=decide (0<args.length) by
    cases args with
    |nil=>simp[dV]
    |cons x r=>simp[dV]]
   exact h
  ·rw[wT (b:=dV 4 (v1,v2,v3) t n o args) fun hh=>by
    simp only[dV,show ¬(4:Int)=1 by decide,show ¬(4:Int)=2 by decide,show ¬(4:Int)=3 by decide,if_false,if_true,aQ,beq_iff_eq,Prod.mk.injEq] at hh;exact hm ⟨hh.1.1.1.1.1,hh.1.1.1.1.2.1,hh.1.1.1.1.2.2,hh.1.1.1.2,hh.1.1.2,hh.1.2⟩]
   exact pQ hB (by rintro⟨h1,h2,h3,h4,h5,h6,-⟩;exact hm ⟨h1.symm,h2.symm,h3.symm,h4.symm,h5.symm,h6.symm⟩) w
 by_cases h5:k=5
 ·subst h5;have hB:∀w,cL 79 #[EV 5 (v1,v2,v3) t n o (.slice a args.length c)] w fun e w'=>e= .returned (EV 5 (0,0,[]) [] n 0 (.slice a args.length c))/\Bl w w':=fun w=>rT 5 v1 v2 o v3 t n a args.length c w;by_cases hm:v1=0/\v2=0/\v3=[]/\t=[]/\o=0
  ·obtain⟨rfl,rfl,rfl,rfl,rfl⟩:=hm;rw[show dV 5 (0,0,[]) [] n 0 args=(gP.contains n&&(args.length==1||args.isEmpty&&n==gX)) by simp[dV]];cases hc:gP.contains n
   ·exact b6x hc hB w
   ·rw[rC]
    match args,hB with
    |[],hB=>
     by_cases hs:n=gX
     ·subst hs;have h:=b6v hc hB w;rw[show(([]:List Ex).length==1||([]:List Ex).isEmpty&&gX==gX)=true from rfl];exact h
     ·have hs':(n==gX)=false:=by simpa using hs
      have h:=b6t hc hs' hB w;rw[hs'];exact h
    |[x],hB=>exact b6w hc hB w
    |x::y::r,hB=>
     have h:=b6u (m:=r.length) hc hB w;rw[show((x::y::r).length==1||(x::y::r).isEmpty&&n==gX)=false by simp];exact h
  ·rw[wT (b:=dV 5 (v1,v2,v3) t n o args) fun hh=>by
    simp only[dV,show ¬(5:Int)=1 by decide,show ¬(5:Int)=2 by decide,show ¬(5:Int)=3 by decide,show ¬(5:Int)=4 by decide,if_false,if_true,aQ,beq_iff_eq,Prod.mk.injEq] at hh;exact hm ⟨hh.1.1.1.1.1,hh.1.1.1.1.2.1,hh.1.1.1.1.2.2,hh.1.1.1.2,hh.1.1.2⟩]
   exact pQ hB (by rintro⟨h1,h2,h3,h4,-,h6,-⟩;exact hm ⟨h1.symm,h2.symm,h3.symm,h4.symm,h6.symm⟩) w
 have hB:∀w,cL 79 #[EV k (v1,v2,v3) t n o (.slice a args.length c)] w fun e w'=>e= .returned (EV k (0,0,[]) [] [] 0 (.slice a args.length c))/\Bl w w':=fun w=>by
  have h:=rT k v1 v2 o v3 t n a args.length c w;rw[show a4e k (v1,v2,v3) t n o (.slice a args.length c)=EV k (0,0,[]) [] [] 0 (.slice a args.length c) by unfold a4e;rw[if_neg h1,if_neg h2,if_neg h3,if_neg h5]] at h;exact h
 rw[show dV k (v1,v2,v3) t n o args=false by unfold dV;rw[if_neg h1,if_neg h2,if_neg h3,if_neg h4,if_neg h5]];by_cases hm:v1=0/\v2=0/\v3=[]/\t=[]/\n=[]/\o=0
 ·obtain⟨rfl,rfl,rfl,rfl,rfl,rfl⟩:=hm;exact c0f ⟨h1,h2,h3,h4,h5⟩ hB w
 ·exact pQ hB (by rintro⟨h1,h2,h3,h4,h5,h6,-⟩;exact hm ⟨h1.symm,h2.symm,h3.symm,h4.symm,h5.symm,h6.symm⟩) w
end
section
attribute [local go_sem] nC
abbrev QE:=Ex×Option Addr×Nat
abbrev QE.sv(q:QE):Value:= .slice q.2.1 q.1.args.length q.2.2
abbrev QE.v(q:QE):Value:=EV q.1.k q.1.v q.1.t q.1.n q.1.o q.sv
def qz:QE:=(zeroE,none,0)
def c7c(n₀:Nat)(W:World)(sv:Value)(zs:List QE):Prop:=∃a cap,sv= .slice a zs.length cap/\∀j,j<zs.length->∃b off,a=some ⟨b,off,none⟩/\b<n₀/\At8 W b (off+j * 8) (zs[j]?.getD qz).1 (zs[j]?.getD qz).sv
theorem At8.below{n₀:Nat}{A B:World}(h:Below n₀ A B){b o:Nat}(hb:b<n₀){x:Ex}{sv:Value}(k:At8 A b o x sv):At8 B b o x sv:=k.keep (h.block b hb)
theorem c7c.below{n₀:Nat}{A B:World}(h:Below n₀ A B){sv:Value}{zs:List QE}(k:c7c n₀ A sv zs):c7c n₀ B sv zs:=by
 obtain⟨a,cap,e,hc⟩:=k;refine⟨a,cap,e,fun j hj=>?_⟩;obtain⟨b,off,e2,hb,h8⟩:=hc j hj;exact⟨b,off,e2,hb,h8.below h hb⟩
theorem c3q{W:World}{sv:Value}{l:List Ex}(h:gU W sv l):∃zs:List QE,zs.map (·.1)=l/\c7c W.heap.size W sv zs/\∀q∈zs,gU W q.sv q.1.args:=by
 cases h with
 |mk a cap l s h1 h2=>
  have hs:∀j,∃p:Option Addr×Nat,∀x,l[j]?=some x->s j= .slice p.1 x.args.length p.2:=fun j=>by
   cases hx:l[j]? with
   |none=>exact⟨(none,0),fun x h=>by cases h⟩
   |some x=>
    obtain⟨a',c',e,-⟩:=(h2 j x hx).shape;exact⟨(a',c'),fun y hy=>by injection hy with hy;subst hy;exact e⟩
  obtain⟨F,hF⟩:=Classical.axiomOfChoice hs;have hg:∀j,j<l.length->(((iU l.length).map fun j=>((l[j]?.getD zeroE,F j):QE))[j]?.getD qz)=((l[j]?.getD zeroE,F j):QE):=fun j hj=>(by simp[hj]);refine⟨(iU l.length).map fun j=>(l[j]?.getD zeroE,F j),?_,⟨a,cap,by simp,fun j hj=>?_⟩,fun q hq=>?_⟩
  ·apply kX
   ·simp
   ·intro i h1 h2;have:i<l.length:=h2;simp[this]
  ·have hj':j<l.length:=by simpa using hj
   rw[hg j hj'];have hx:l[j]?=some l[j]:=aP hj';obtain⟨b,off,e,h8⟩:=h1 j _ hx;have hsj:=hF j _ hx;refine⟨b,off,e,by have:=bB _ _ h8.1;simpa using this,?_⟩;rw[hx,oQ];rw[hsj] at h8;exact h8
  ·obtain⟨j,hj,rfl⟩:=List.mem_map.1 hq;have hj':j<l.length:=(by simpa using hj);have hx:l[j]?=some l[j]:=aP hj';have h:=h2 j _ hx;rw[hF j _ hx] at h;rw[hx,oQ];exact h
theorem a1p(k:Nat):upto (fun j=>j) k=iU k:=by simp[upto]
theorem a5l{k n:Nat}(h:k<=n):iU k<+:iU n:=by
 refine⟨(iU n).drop k,?_⟩;have:iU k=(iU n).take k:=by
  apply kX
  ·simp[h]
  ·intro i h1 h2;simp
 rw[this,gF]
set_option maxRecDepth 100000 in
theorem a7i(F:Fence)(n:Nat)(h7:F.fn 84)(hro:F.round=none)(hn:1<=n)(l Bs n₀ b off len cap:Nat)(zs:List QE)(hreach:len<=1000000)(hb:0<len->b<n₀)(J Jx:List Nat->World->Prop)(hJ:∀pre W o,J pre W->J pre (W.alloc o))
  (hY:∀pre x W,J pre W->pre.length<len->YieldAt F (n-1) prog l #[(zs[x]?.getD qz).v] W fun e W'=>
   (e= .returned (.bool true)/\J (pre++[x]) W'/\Below n₀ W W')\/(e= .returned (.bool false)/\Jx (pre++[x]) W'))
  (W:World) (hn₀:n₀<=W.heap.size) (hBs:W.cell? ⟨Bs,0,none⟩=some (.slice (some ⟨b,off,none⟩) len cap)) (hc:∀j,j<len->At8 W b (off+j * 8) (zs[j]?.getD qz).1 (zs[j]?.getD qz).sv) (h0:J [] W):
  CallsIn F n prog 84 #[.func (.yield l) #[] #[],.pointer (some ⟨Bs,0,none⟩)] W fun e W'=>(∃v,e= .returned v)/\
   ((∃ys,ys=upto (fun j=>j) len/\J ys W')\/(∃pre,(∃k,k<=len/\pre=upto (fun j=>j) k)/\Jx pre W')):=by
 refine callsIn_of_wp func84 rfl h7 ?_ hro;simp only[ntmps84,gG,aX,bL,Nat.reduceAdd,Nat.reduceSub,eX,eU,gH,fD,cB,bE]
 gi_wp2
 gi_loopw [7] (fun i wr=>∃k:Nat,k<=len/\i= .int .i64 k/\J (upto (fun j=>j) k) wr/\Hid (Below n₀ W wr))
  (fun i _=>len-(intOf i).toNat)
 case atStart=>exact⟨0,dL _,rfl,h0,bS _ _⟩
 case round=>
  obtain⟨k,hk,rfl,hJs,HN⟩:=hrel;by_cases hlt:k<len
  ·have HY:=aB (fun o=>hY _ k (wr.alloc o) (hJ _ _ _ hJs) (by rw[zN];exact hlt));have hzw:=HN.o.size;obtain⟨e0,e1,e2,e3,e4,e5,e6,e7⟩:=(hc k hlt).below HN.o (hb aE);generalize hz:zs[k]?.getD qz=z at *;have HZ:=aB hz;clear hz;obtain⟨⟨zk,⟨z1,z2,z3⟩,zt,zn,zo,za⟩,ad,ca⟩:=z;simp only[Ex.k,Ex.v,Ex.t,Ex.n,Ex.o] at e0 e1 e2 e3 e4 e5 e6 e7;dsimp only[QE.sv,Ex.args] at e7;obtain⟨fn,tmps,assign,body,hy,hR⟩:=HY.o (.cells #[.int .i64 zk,.int .i64 z1,.int .i64 z2,S z3,S zt,S zn,.int .i64 zo,.slice ad za.length ca] 47);dsimp only[QE.v,QE.sv,Ex.k,Ex.v,Ex.t,Ex.n,Ex.o,Ex.args] at hy
   gi_wp2
   refine hR.mono ?_;rintro e W3 (⟨rfl,hJ3,hk3⟩|⟨rfl,hJx3⟩)
   ·have HK3:=aB hk3;clear hk3
    gi_wp2
    go_roundw
    case rel=>exact⟨k+1,by omega,by simp,by rw[wH];exact hJ3,HN.o.trans (((bS _ wr).alloc aE _).trans HK3.o)⟩
    case measure=>simp[intOf];omega
   ·gi_wp2
    refine bodyPost_ret (results_none rfl _ _ _) rfl ?_;exact⟨⟨_,rfl⟩,.inr ⟨_,⟨k+1,by omega,by rw[wH]⟩,hJx3⟩⟩
  ·obtain rfl:k=len:=by omega
   gi_wp2
   go_end0;exact⟨⟨_,rfl⟩,.inl ⟨_,rfl,hJs⟩⟩
set_option maxRecDepth 100000 in
theorem zM(a:Option Addr)(cap:Nat)(F:Fence)(n:Nat)(h7:F.fn 84)(hro:F.round=none)(l Bs:Nat)(J:List Nat->World->Prop)(W:World)(hBs:W.cell? ⟨Bs,0,none⟩=some (.slice a 0 cap))(h0:J [] W):
  CallsIn F n prog 84 #[.func (.yield l) #[] #[],.pointer (some ⟨Bs,0,none⟩)] W fun e W'=>(∃v,e= .returned v)/\J [] W':=by
 refine callsIn_of_wp func84 rfl h7 ?_ hro;simp only[ntmps84,gG,aX,bL,Nat.reduceAdd,Nat.reduceSub,eX,eU,gH,fD,cB,bE]
 gi_wp2
 gi_loopw [7] (fun i wr=>i= .int .i64 0/\J [] wr) (fun _ _=>0)
 case atStart=>exact⟨rfl,h0⟩
 case round=>
  obtain⟨rfl,hJs⟩:=hrel
  gi_wp2
  go_end0;exact⟨⟨_,rfl⟩,hJs⟩
set_option maxRecDepth 100000 in
theorem b1a(F:Fence)(n:Nat)(h5:F.fn 52)(hro:F.round=none)(a:Option Addr)(len cap:Nat)(w:World):
  CallsIn F n prog 52 #[.slice a len cap] w fun e w'=>e= .returned (.func (.func 84) #[] #[.pointer (some ⟨w.heap.size,0,none⟩)])/\w'=w.alloc (.cells #[.slice a len cap] 45):=by
 refine callsIn_of_wp func52 rfl h5 ?_ hro;simp only[ntmps52,gG,aX,bL,Nat.reduceAdd,Nat.reduceSub,eX,eU,gH,fD,cB,bE]
 gi_wp2
 go_ret;exact⟨rfl,rfl⟩
theorem a2y(F:Fence)(n:Nat)(h7:F.fn 84)(hro:F.round=none)(hn:1<=n)(Bs n₀:Nat)(sv:Value)(zs:List QE)(hreach:zs.length<=1000000)(w:World)(hBs:Bs<w.heap.size)(hn₀:n₀<=w.heap.size)
  (hc:w.cell? ⟨Bs,0,none⟩=some sv) (hI:c7c n₀ w sv zs):
  SeqStopsK F n prog 84 #[.pointer (some ⟨Bs,0,none⟩)] (fun x:Nat=> #[(zs[x]?.getD qz).v]) (Below n₀) (fun ys=>ys=iU zs.length) (fun pre=>pre<+:iU zs.length) zs.length w:=fun l J Jx W hW hJ _ hY h0=>by
 have hc':=(hW.cell (p:=⟨Bs,0,none⟩) hBs).trans hc;obtain⟨a,cap,rfl,hcs⟩:=hI.below (hW.mono hn₀);by_cases hz:zs=[]
 ·subst hz;exact(zM a cap F n h7 hro l Bs J W hc' h0).mono fun e W' ⟨he,hj⟩=>⟨he,.inl ⟨_,rfl,hj⟩⟩
 ·have hpos:0<zs.length:=by cases zs with |nil=>exact absurd rfl hz|cons _ _=>simp
  obtain⟨b,off,rfl,hb,-⟩:=hcs 0 hpos;have hcs':∀j,j<zs.length->At8 W b (off+j * 8) (zs[j]?.getD qz).1 (zs[j]?.getD qz).sv:=fun j hj=>by
   obtain⟨b',off',e,_,c⟩:=hcs j hj;injection e with e;injection e with e1 e2 _;subst e1;subst e2;exact c
  refine(a7i F n h7 hro hn l Bs n₀ b off zs.length cap zs hreach (fun _=>hb) J Jx (fun pre W1 o h=>hJ pre W1 _ none h (World.grownBy_alloc _ _ none) (fun r e=>by cases e)) hY W (jH hn₀ hW.size) hc' hcs' h0).mono ?_;rintro e W' ⟨he,⟨ys,rfl,hj⟩|⟨pre,⟨k,hk,rfl⟩,hj⟩⟩
  ·exact⟨he,.inl ⟨_,a1p _,hj⟩⟩
  ·exact⟨he,.inr ⟨_,by rw[a1p];exact a5l hk,hj⟩⟩
end
section
attribute [local go_sem] nC
inductive Lens:Ex->Prop where
 |mk (k:Int) (v:Int×Int×List UInt8) (t n:List UInt8) (o:Int) (args:List Ex) (ht:t.length<=9223372036854775807) (hn:n.length<=9223372036854775807) (ha:∀y,y∈args->Lens y):Lens (.mk k v t n o args)
def ckN(x:Ex):Int:=if eH x=true then 0 else 2
theorem a7f(k:Int)(v:Int×Int×List UInt8)(t n:List UInt8)(o:Int)(args:List Ex):eH (.mk k v t n o args)=(dV k v t n o args&&args.all eH):=by
 simp only[eH,vY];rfl
theorem a6i{k v1 v2 o:Int}{v3 t n:List UInt8}{a:Option Addr}{args:List Ex}{c:Nat}(hR:dV k (v1,v2,v3) t n o args=false)(hlt:t.length<=9223372036854775807)(hln:n.length<=9223372036854775807)(w:World)(hG:nD w):
  cL 33 #[EV k (v1,v2,v3) t n o (.slice a args.length c)] w fun e w'=>e= .returned (.int .i64 2)/\Bl w w':=by
 have HR:Hid (∀w,nD w->cL 51 #[EV k (v1,v2,v3) t n o (.slice a args.length c)] w fun e w'=>e= .returned (.bool false)/\Bl w w'):=fun w hG=>by
  have h:=a2m k v1 v2 o v3 t n a args c hlt hln w hG;rw[hR] at h;exact h
 have HG:=aB hG;clear hG hR;generalize args.length=m at *;have HB0:=aB (((Bl.refl w).alloc (.cells #[.int .i64 k,.int .i64 v1,.int .i64 v2,S v3,S t,S n,.int .i64 o,.slice a m c] 47)).alloc (.cells #[.int .i64 0] 37));have hE0:=aV (w.alloc (.cells #[.int .i64 k,.int .i64 v1,.int .i64 v2,S v3,S t,S n,.int .i64 o,.slice a m c] 47)) (.cells #[.int .i64 0] 37) (k:=w.heap.size+1) aa;go_enter func33,ntmps33;go_wp2_with fail;refine(HR.o _ (HG.o.bl HB0.o)).mono ?_;rintro e w1 ⟨rfl,hb1⟩;have hE1:=(hb1.block _ aa).trans hE0;have c0:=cK hE1;have z0:=aJ hE1 0;have HB1:=aB (HB0.o.call hb1);go_wp2;have q0:=cK (x:= .int .i64 2) (lN hE1 0 (.int .i64 2));exact bodyPost_ret (v:= .int .i64 2) (by simp[results,results33,go_sem,q0]) rfl ⟨rfl,HB1.o.set (p:=⟨w.heap.size+1,0,none⟩) (by show w.heap.size<=w.heap.size+1;omega) _⟩
theorem b0s{W A:World}{D:Nat}{a:Act}{z:Int}(hD:W.heap.size+2<=D)(ht:a.tmps[2]?=some (.pointer (some ⟨W.heap.size+1,0,none⟩)))(hd:a.defers=[{target:= .collected D,args:= #[]}])
  (hK:A.heap[D]?=some (.deferred (some []))) (h1:Boxed A (W.heap.size+1) 37 (.int .i64 z)) (hB:Below W.heap.size W A):
  bodyPostM Fence.wide 5 prog Tryz.f33 (fun e w'=>e= .returned (.int .i64 z)/\Bl W w') .ret a A:=by
 obtain⟨tm,df⟩:=a;simp only at ht hd;subst hd;refine⟨by simp,.inl ⟨_,_,rfl,run_takeDeferred hK,?_⟩⟩;have hgp:=grownBy_putObj' A D (.deferred none);have c:=(h1.kept hgp ab).cell;exact⟨.int .i64 z,by simp[results,results33,go_sem,ht,c],rfl,hB.grown hgp hB.size (fun k e=>by cases e;omega)⟩
theorem yO:∀(n:Nat) (x:Ex),fC x<=n->n<=1000000->Lens x->∀(W:World) (v:Value),eO W x v->nD W->cL 33 #[v] W fun e w'=>e= .returned (.int .i64 (ckN x))/\Bl W w'
 |0,x,h,_,_,_,_,_,_=>by have:=oM x;omega
 |N+1,x,hx,hN,hL,W,v,hv,hG=>by
  obtain⟨sv,rfl,hR⟩:=hv;obtain⟨zs,hzs,hE,hRq⟩:=c3q hR;obtain⟨a,cap,rfl,-⟩:=id hE;have IH:Hid (∀(j:Nat) (W':World),Bl W W'->cL 33 #[(zs[j]?.getD qz).v] W' fun e w'=>e= .returned (.int .i64 (ckN (zs[j]?.getD qz).1))/\Bl W' w'):=fun j W' hb=>by
   cases hq:zs[j]? with
   |none=>
    have hz:ckN qz.1=2:=af;rw[Option.getD_none,hz];exact a6i (args:=[]) af (by simp[qz,zeroE,Ex.t]) (by simp[qz,zeroE,Ex.n]) W' (hG.bl hb)
   |some q=>
    rw[oQ];have hm:=dJ hq;have hma:q.1∈x.args:=(by rw[<-hzs];exact List.mem_map_of_mem hm);have hLq:Lens q.1:=by cases hL with |mk _ _ _ _ _ _ _ _ ha=>exact ha _ hma
    exact yO N q.1 (by have:=sH hma;omega) aE hLq W' _ ⟨_,rfl,(hRq q hm).bl hb⟩ (hG.bl hb)
  obtain⟨k,⟨v1,v2,v3⟩,t,n,o,args⟩:=x
  replace hzs:zs.map (·.1)=args:=hzs
  have hlen:args.length=zs.length:=(by rw[<-hzs];simp);have hfew:zs.length<=1000000:=(by have:=sG (.mk k (v1,v2,v3) t n o args);rw[<-hlen];show args.length<=_;have h2:(Ex.mk k (v1,v2,v3) t n o args).args.length=args.length:=rfl;omega);obtain⟨hlt,hln⟩:t.length<=9223372036854775807/\n.length<=9223372036854775807:=(by cases hL with |mk _ _ _ _ _ _ h1 h2 _=>exact⟨h1,h2⟩);clear hL hR hRq hx;simp only[Ex.k,Ex.v,Ex.t,Ex.n,Ex.o];cases hr:dV k (v1,v2,v3) t n o args
  ·have e:ckN (.mk k (v1,v2,v3) t n o args)=2:=by unfold ckN;rw[a7f,hr];rfl
   rw[e,<-hlen];exact a6i hr hlt hln W hG
  have HCK:Hid (ckN (.mk k (v1,v2,v3) t n o args)=if zs.all (fun q=>eH q.1) then 0 else 2):=by
   show _=_;unfold ckN;rw[a7f,hr,rC,<-hzs,List.all_map];rfl
  obtain⟨z,HZ⟩:∃z,Hid (ckN (.mk k (v1,v2,v3) t n o args)=z):=⟨_,rfl⟩
  rw[HZ.o];have HR:Hid (∀w,nD w->cL 51 #[EV k (v1,v2,v3) t n o (.slice a zs.length cap)] w fun e w'=>e= .returned (.bool true)/\Bl w w'):=fun w hG=>by
   have h:=a2m k v1 v2 o v3 t n a args cap hlt hln w hG;rw[hr,hlen] at h;exact h
  have HG:=aB hG;have HE:=aB hE;have HFEW:=aB hfew;have HB0:=aB (((Bl.refl W).alloc (.cells #[.int .i64 k,.int .i64 v1,.int .i64 v2,S v3,S t,S n,.int .i64 o,.slice a zs.length cap] 47)).alloc (.cells #[.int .i64 0] 37));have hE0:=aV (W.alloc (.cells #[.int .i64 k,.int .i64 v1,.int .i64 v2,S v3,S t,S n,.int .i64 o,.slice a zs.length cap] 47)) (.cells #[.int .i64 0] 37) (k:=W.heap.size+1) aa;have hX0:=(aW (W.alloc (.cells #[.int .i64 k,.int .i64 v1,.int .i64 v2,S v3,S t,S n,.int .i64 o,.slice a zs.length cap] 47)) (.cells #[.int .i64 0] 37) aa).trans (aN W _);clear hG hE hfew hr hlen hzs hlt hln;refine(callsIn_wide (n:=5)).1 ?_;refine callsIn_of_wp_marks func33 rfl trivial ?_ rfl;simp only[ntmps33,gG,aX,bL,Nat.reduceAdd,Nat.reduceSub,eX,eU,gH,fD,cB,bE]
  gi_wp2_with fail
  refine⟨trivial,?_⟩;refine(callsIn_wide.2 (HR.o _ (HG.o.bl HB0.o))).mono ?_;rintro e w1 ⟨rfl,hb1⟩;have HB1:=aB (HB0.o.call hb1);have HE1:=aB ((hb1.block _ aa).trans hE0);have hX1:=(hb1.block W.heap.size ab).trans hX0;have hlw:=(aC.1 HE1.o).1;obtain⟨⟨e0,e1,e2,e3,e4,e5,e6,e7⟩,-⟩:=eight hX1;clear hb1 hE0 hX0
  gi_wp2_with fail
  refine⟨trivial,?_⟩;refine(b1a Fence.wide 4 trivial rfl _ _ _ _).mono ?_;rintro e w' ⟨rfl,rfl⟩
  gi_wp2_with fail
  have bR:Boxed (w1.alloc (.cells #[.slice a zs.length cap] 45)) (W.heap.size+1) 37 (.int .i64 0):=Boxed.alloc (show Boxed w1 _ _ _ from HE1.o) _;have bN:=Boxed.new w1 45 (.slice a zs.length cap);have hB2:Below W.heap.size W (w1.alloc (.cells #[.slice a zs.length cap] 45)):=HB1.o.alloc _;have hsz:(w1.alloc (.cells #[.slice a zs.length cap] 45)).heap.size=w1.heap.size+1:=aa;clear e0 e1 e2 e3 e4 e5 e6 e7 hX1 HE1;obtain⟨W0,hW0⟩:∃W0,w1.alloc (.cells #[.slice a zs.length cap] 45)=W0:=⟨_,rfl⟩
  rw[hW0] at bR bN hB2 hsz⊢;clear hW0;refine wpIn_rangeFunc_ownH rfl aE (gf:=84) (lb:= #[.pointer (some ⟨w1.heap.size,0,none⟩)]) rfl trivial (enters_of func84 ae rfl)
   (a2y Fence.wide (5-1) trivial rfl aE w1.heap.size W.heap.size _ zs HFEW.o W0 aE aE bN.cell (HE.o.below hB2)) belowK_t (belowK_b aE) (bS _ _) (fun _=>rfl)
   (fun pre A=>Boxed A (W.heap.size+1) 37 (.int .i64 0)/\Below W.heap.size W A/\∀j∈pre,eH (zs[j]?.getD qz).1=true)
   (fun c pre A=>c= .ret/\Boxed A (W.heap.size+1) 37 (.int .i64 2)/\Below W.heap.size W A/\∃j∈pre,eH (zs[j]?.getD qz).1=false)
   (fun s A B row hs hg hr=>⟨boxed_own (W.heap.size+1) 37 (fun(_:Unit)=>Value.int .i64 0) () A B row hs.1 hg (fun r e=>(hr r e).2),ownFrom_below (β:=Unit) (aH _) aE () A B row hs.2.1 hg hr,hs.2.2⟩)
   (fun c s A B row hs hg hr=>⟨hs.1,boxed_own (W.heap.size+1) 37 (fun(_:Unit)=>Value.int .i64 2) () A B row hs.2.1 hg (fun r e=>(hr r e).2),ownFrom_below (β:=Unit) (aH _) aE () A B row hs.2.2.1 hg hr,hs.2.2.2⟩)
   ⟨bR,hB2,fun j hj=>by cases hj⟩
   (fun j a' A=>∃Bx,A.heap[Bx]?=some (.cells #[.int .i64 (zs[j]?.getD qz).1.k,.int .i64 (zs[j]?.getD qz).1.v.1,.int .i64 (zs[j]?.getD qz).1.v.2.1,S (zs[j]?.getD qz).1.v.2.2,S (zs[j]?.getD qz).1.t,S (zs[j]?.getD qz).1.n,.int .i64 (zs[j]?.getD qz).1.o,(zs[j]?.getD qz).sv] 47 (0,0))/\
    a'={tmps:= #[EV k (v1,v2,v3) t n o (.slice a zs.length cap),.pointer (some ⟨W.heap.size,0,none⟩),.pointer (some ⟨W.heap.size+1,0,none⟩),.pointer (some ⟨Bx,0,none⟩),undef,EV k (v1,v2,v3) t n o (.slice a zs.length cap),.bool true,.bool false,.pointer (some ⟨W.heap.size,7,none⟩),.slice a zs.length cap,.func (.func 84) #[] #[.pointer (some ⟨w1.heap.size,0,none⟩)],(zs[j]?.getD qz).v,undef,undef,undef,undef,undef],defers:=[]})
   (fun j a' _ A B row hs hg hr=>by
    obtain⟨Bx,h1,h2⟩:=hs;refine⟨Bx,(hg.block Bx (aC.1 h1).1 (fun e=>?_)).trans h1,h2⟩;obtain⟨-,o,ho,hc⟩:=hr Bx e.symm;rw[h1] at ho;cases ho;cases hc)
   ?assign ?body ?done ?stop
  case assign=>
   rintro l pre j A K ⟨hb,hB,hp⟩ hK
   revert hK
   generalize zs[j]?.getD qz=q;obtain⟨⟨xk,⟨x1,x2,x3⟩,xt,xn,xo,xa⟩,ad,ca⟩:=q;dsimp only[QE.v,QE.sv,Ex.k,Ex.v,Ex.t,Ex.n,Ex.o,Ex.args];intro hK
   gi_wp2
   exact hK _ _ ((KeepsOthers.alloc _ _).from _) ((bS _ A).alloc hB.size _) ⟨hb.alloc _,hB.alloc hB.size _,hp⟩ ⟨A.heap.size,aN A _,rfl⟩
  case body=>
   rintro l pre j a' A hl ⟨r,hr⟩ ⟨hb,hB,hp⟩ ⟨Bx,hX,rfl⟩ _;have HI:=aB (IH.o j A hB);have HPj:Hid (ckN (zs[j]?.getD qz).1=if eH (zs[j]?.getD qz).1=true then 0 else 2):=rfl;have HN1:Hid (eH (zs[j]?.getD qz).1=true->∀i∈pre++[j],eH (zs[i]?.getD qz).1=true):=fun h i hi=>by
    rcases iX.1 hi with hi|hi
    ·exact hp i hi
    ·obtain rfl:=gQ.1 hi;exact h
   have HN2:Hid (eH (zs[j]?.getD qz).1=false->∃i∈pre++[j],eH (zs[i]?.getD qz).1=false):=fun h=>⟨j,by simp,h⟩
   clear hp;generalize zs[j]?.getD qz=q at *;obtain⟨⟨xk,⟨x1,x2,x3⟩,xt,xn,xo,xa⟩,ad,ca⟩:=q;dsimp only[QE.v,QE.sv,Ex.k,Ex.v,Ex.t,Ex.n,Ex.o,Ex.args] at hX HI⊢;obtain⟨⟨e0,e1,e2,e3,e4,e5,e6,e7⟩,-⟩:=eight hX;clear hX;have hlr:=hb.lt;cases hc:eH (.mk xk (x1,x2,x3) xt xn xo xa)
   ·have HC:=aB (show ckN (.mk xk (x1,x2,x3) xt xn xo xa)=2 from by unfold ckN;rw[hc];rfl);have HN:=aB (HN2.o hc);clear hc HN1 HN2 HPj
    gi_wp2_with fail
    refine⟨trivial,?_⟩;refine(CallsIn.inRound l (callsIn_wide.2 HI.o)).mono ?_;rintro e A2 ⟨rfl,hb2⟩;rw[HC.o];have hbx2:Boxed A2 (W.heap.size+1) 37 (.int .i64 0):=(hb2.block _ hlr).trans hb;have c0:=hbx2.cell;have z0:=aJ (show A2.heap[W.heap.size+1]?=_ from hbx2) 0;have HH:=aB (bT hb2 (bT hB hbx2));clear hb2 hB hbx2 hb e0 e1 e2 e3 e4 e5 e6 e7
    gi_wp2
    exact⟨((KeepsOthers.of_bl HH.o.1).trans (KeepsOthers.setCell _ _ _)).from _,rfl,HH.o.2.2.set _,(HH.o.2.1.trans (HH.o.1.mono HH.o.2.1.size)).setCell (p:=⟨W.heap.size+1,0,none⟩) bx _,HN.o⟩
   ·have HC:=aB (show ckN (.mk xk (x1,x2,x3) xt xn xo xa)=0 from by unfold ckN;rw[hc];rfl);have HN:=aB (HN1.o hc);clear hc HN1 HN2 HPj
    gi_wp2_with fail
    refine⟨trivial,?_⟩;refine(CallsIn.inRound l (callsIn_wide.2 HI.o)).mono ?_;rintro e A2 ⟨rfl,hb2⟩;rw[HC.o];have HH:=aB (bT hb2 (bT hB (show Boxed A2 (W.heap.size+1) 37 (.int .i64 0) from(hb2.block _ hlr).trans hb)));clear hb2 hB hb e0 e1 e2 e3 e4 e5 e6 e7
    gi_wp2
    exact⟨(KeepsOthers.of_bl HH.o.1).from _,HH.o.1.mono HH.o.2.1.size,HH.o.2.2,HH.o.2.1.trans (HH.o.1.mono HH.o.2.1.size),HN.o⟩
  case done=>
   rintro D ys A hD rfl ⟨hb,hB,hp⟩ hK;have HC:=aB (show ckN (.mk k (v1,v2,v3) t n o args)=0 from by
    rw[HCK.o,if_pos];rw[jA];intro q hq;obtain⟨i,hi,rfl⟩:=List.getElem_of_mem hq;have:=hp i (by simpa using hi);rw[aP hi] at this;exact this)
   have HZ0:=aB (show z=0 from HZ.o.symm.trans HC.o);have c0:=hb.cell;have z0:=aJ (show A.heap[W.heap.size+1]?=_ from hb) 0;have hDD:W.heap.size+2<=D:=aE;have HH:=aB (bT ((aM A ⟨W.heap.size+1,0,none⟩ (.int .i64 0) D (by show D≠W.heap.size+1;omega)).trans hK) (bT hB (hb.set (.int .i64 0))));clear hb hB hK hp
   gi_wp2
   exact b0s hDD rfl rfl HH.o.1 (by rw[HZ0.o];exact HH.o.2.2) (HH.o.2.1.setCell (p:=⟨W.heap.size+1,0,none⟩) bx _)
  case stop=>
   rintro D c pre A hD hpre ⟨rfl,hb,hB,hp⟩ hK;have HC:=aB (show ckN (.mk k (v1,v2,v3) t n o args)=2 from by
    obtain⟨i,hi,hf⟩:=hp;have hi2:i<zs.length:=by
     obtain⟨r,hr⟩:=hpre;have:i∈iU zs.length:=(by rw[<-hr];exact List.mem_append_left _ hi);simpa using this
    rw[HCK.o,if_neg];intro hall;rw[jA] at hall;have:=hall _ (dS hi2);rw[aP hi2,oQ] at hf;rw[hf] at this;cases this)
   have HZ0:=aB (show z=2 from HZ.o.symm.trans HC.o);have HH:=aB (bT hK (bT hB hb));clear hb hB hK hp
   gi_wp2
   exact b0s aE rfl rfl HH.o.1 (by rw[HZ0.o];exact HH.o.2.2) HH.o.2.1
end
section
end
section
end
section
end
end Go.Proofs.YtkimpcmkminffaaGreatDoor
