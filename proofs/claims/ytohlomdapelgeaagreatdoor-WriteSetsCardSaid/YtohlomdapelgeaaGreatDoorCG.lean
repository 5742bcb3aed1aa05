/- Texts QX QY QU QI QW QH. -/
import Derived.Test.YtohlomdapelgeaaGreatDoorCE
import Derived.Test.YtohlomdapelgeaaGreatDoorCF
import Derived.Test.YtohlomdapelgeaaGreatDoorCC
import Derived.Test.YtohlomdapelgeaaGreatDoorCA
import Derived.RangeFuncCalls
import Derived.OwnWalkIn
namespace Go.Proofs.YtohlomdapelgeaaGreatDoor
open _root_.Go.Proofs.Tryz
open Go.RowKit
open Go.RowKit Go.Shelf
open _root_.Array renaming getElem?_eq_some_iff->aC,replicate->kD,replicate_succ->eX,replicate_zero->eU
open _root_.Go.RowKit.Below renaming refl->bS
open _root_.Bool renaming false_and->pK,true_and->rC
open _root_.Go.Lib renaming cell_of_heap->aG,hid->aB
open _root_.List renaming append_toArray->fD,cons_append->bE,drop_eq_getElem_cons->aZ,drop_length->dO,ext_getElem->kX,getElem?_eq_getElem->aP,getElem_mem->dS,length_append->bD,length_cons->aX,length_nil->bL,mem_cons->dD,mem_singleton->gQ,nil_append->cB,push_toArray->gH,range->iU,size_toArray->gG
open _root_.Nat renaming le_refl->aH,le_trans->jH,zero_le->dL
open _root_.Go.Oper renaming semAt_some->nC
open _root_.Option renaming getD_some->oQ
open _root_.Go.Region renaming noSelect->jZ
open _root_.Go.World renaming block_lt_of_cell?->bB
set_option maxRecDepth 100000
set_option maxHeartbeats 4000000
section
theorem d6z{α:Type}{p:α->Bool}{l:List α}{j:Nat}(h:j<l.length):(l.drop j).any p=(p l[j]||(l.drop (j+1)).any p):=by
 rw[aZ h,List.any_cons]
theorem d9b{α:Type}(p:α->Bool)(l:List α):(!(l.any fun y=> !p y))=l.all p:=by
 induction l with
 |nil=>rfl
 |cons x l ih=>simp only[List.any_cons,List.all_cons,Bool.not_or,Bool.not_not,ih]
theorem e5j{W:World}{a:Option Addr}{cap:Nat}{l:List It}{p:It->Bool}{q:Nat->Prop}{fn:FuncId}(caps:Array Value)(hen:∀(args:Array Value) (w:World),(callFunc fn args).run prog w= .ok (.enter fn args) w)(hlen:l.length<=1000000)(hR:d2p fIt q W (.slice a l.length cap) l)
  (hf:∀y∈l,∀(W':World) (s:Value),Bl W W'->bG q W' s (Form.ex fIt y).args->eg fn (#[.agg (fIt.cells y s).toArray]++caps) W' fun e w'=>e= .returned (.bool (p y))/\Bl W' w'):
  eg 227 #[.slice a l.length cap,.func (.func fn) #[] caps] W fun e w'=>(∃z:Int,e= .returned (.int .i64 z)/\decide (0<=z)=l.any p)/\Bl W w':=by
 obtain⟨a',cap',e,hc⟩:=hR.shape;obtain⟨rfl,rfl⟩:a=a'/\cap=cap':=ba;obtain⟨R,HRR⟩:∃R,Hid (l.any p=R):=⟨_,rfl⟩
 rw[HRR.o];have HC:=aB hc;have HF:=aB hf;clear hR hc hf e;go_enter func227,ntmps227;go_wp2_with fail;go_loopw [8] (fun i wr=>∃j:Nat,j<=l.length/\i= .int .i64 (j:Int)/\Hid (R=(l.drop j).any p)/\Hid (Bl W wr)) (fun i _=>l.length-(intOf i).toNat)
 case atStart=>exact⟨0,dL _,rfl,HRR.o.symm,Bl.refl W⟩
 case round=>
  obtain⟨j,hj,rfl,HD,HB⟩:=hrel;by_cases hlt:j<l.length
  ·obtain⟨b,off,s,rfl,-,hbl,hcs,hr⟩:=HC.o j hlt;have HDj:=aB (HD.o.trans (d6z hlt));have HM:=aB (dS hlt);have HR:=aB (hr.bl HB.o)
   replace hcs:=hcs.keep (HB.o.block b hbl)
   have hlt':(j:Int)<(l.length:Int):=aE;obtain⟨ad,ca,rfl⟩:=hr.shape;clear hr;generalize l[j]=y at *;obtain⟨st,tt,⟨zk,⟨z1,z2,z3⟩,zt,zn,zo,za⟩,al⟩:=y
   replace hcs:d2k wr b (off+j * 11) [.bool st,S tt,.int .i64 zk,.int .i64 z1,.int .i64 z2,S z3,S zt,S zn,.int .i64 zo,.slice ad za.length ca,S al]:=hcs
   have e0:wr.cell? ⟨b,off+j * 11,none⟩=some (.bool st):=hcs 0 _ rfl;have e1:wr.cell? ⟨b,off+j * 11+1,none⟩=some (S tt):=hcs 1 _ rfl;have e2:wr.cell? ⟨b,off+j * 11+2,none⟩=some (.int .i64 zk):=hcs 2 _ rfl;have e3:wr.cell? ⟨b,off+j * 11+3,none⟩=some (.int .i64 z1):=hcs 3 _ rfl;have e4:wr.cell? ⟨b,off+j * 11+4,none⟩=some (.int .i64 z2):=hcs 4 _ rfl;have e5:wr.cell? ⟨b,off+j * 11+5,none⟩=some (S z3):=hcs 5 _ rfl;have e6:wr.cell? ⟨b,off+j * 11+6,none⟩=some (S zt):=hcs 6 _ rfl;have e7:wr.cell? ⟨b,off+j * 11+7,none⟩=some (S zn):=hcs 7 _ rfl;have e8:wr.cell? ⟨b,off+j * 11+8,none⟩=some (.int .i64 zo):=hcs 8 _ rfl;have e9:wr.cell? ⟨b,off+j * 11+9,none⟩=some (.slice ad za.length ca):=hcs 9 _ rfl;have e10:wr.cell? ⟨b,off+j * 11+10,none⟩=some (S al):=hcs 10 _ rfl;clear hcs;go_wp2_with fail;refine(HF.o ⟨st,tt,(.mk zk (z1,z2,z3) zt zn zo za),al⟩ HM.o _ (.slice ad za.length ca) HB.o HR.o).mono ?_;rintro e w1 ⟨rfl,hb1⟩;have HB1:=aB (HB.o.call hb1);clear hb1 e0 e1 e2 e3 e4 e5 e6 e7 e8 e9 e10;cases hs:p ⟨st,tt,(.mk zk (z1,z2,z3) zt zn zo za),al⟩
   ·have HN:=aB (show R=(l.drop (j+1)).any p from by rw[HDj.o,hs,Bool.false_or]);clear hs;go_wp2;go_roundw
    case rel=>exact⟨j+1,by omega,by go_num,HN.o,HB1.o⟩
    case measure=>simp[intOf];omega
   ·have HN:=aB (show decide (0<=(j:Int))=R from by rw[HDj.o,hs,Bool.true_or];simp);clear hs;go_wp2;go_ret;exact⟨⟨_,rfl,HN.o⟩,HB1.o⟩
  ·obtain rfl:j=l.length:=by omega
   have HN:=aB (show decide (0<=(-1:Int))=R from by rw[HD.o,dO];rfl);go_wp2;go_ret;exact⟨⟨_,rfl,HN.o⟩,HB.o⟩
theorem e5n{W:World}{a:Option Addr}{cap:Nat}{l:List It}{p:It->Bool}{q:Nat->Prop}{fn:FuncId}(caps:Array Value)(hen:∀(args:Array Value) (w:World),(callFunc fn args).run prog w= .ok (.enter fn args) w)(hlen:l.length<=1000000)(hR:d2p fIt q W (.slice a l.length cap) l)
  (hf:∀y∈l,∀(W':World) (s:Value),Bl W W'->bG q W' s (Form.ex fIt y).args->eg fn (#[.agg (fIt.cells y s).toArray]++caps) W' fun e w'=>e= .returned (.bool (p y))/\Bl W' w'):
  eg 176 #[.slice a l.length cap,.func (.func fn) #[] caps] W fun e w'=>e= .returned (.bool (l.any p))/\Bl W w':=by
 have H1:=aB (e5j caps hen hlen hR hf);generalize l.any p=R at *;generalize l.length=m at *;clear hR hf hlen hen;go_enter func176,ntmps176;go_wp2_with fail;refine H1.o.mono ?_;rintro e w1 ⟨⟨z,rfl,hz⟩,hb1⟩;have HZ:=aB hz;clear hz;go_wp2;go_ret;exact⟨by rw[<-HZ.o];rfl,hb1⟩
theorem e0e{W:World}{y:It}{s:Value}{v:Bool}{g bx:Nat}(heng:∀(args:Array Value) (w:World),(callFunc g args).run prog w= .ok (.enter g args) w)(hx:W.cell? ⟨bx,0,none⟩=some (.func (.func g) #[] #[])){n:List Ex}{q:Nat->Prop}(hs:bG q W s n)
  (hg:∀W',Bl W W'->eg g #[.agg (fIt.cells y s).toArray] W' fun e w'=>e= .returned (.bool v)/\Bl W' w'):
  eg 177 #[.agg (fIt.cells y s).toArray,.pointer (some ⟨bx,0,none⟩)] W fun e w'=>e= .returned (.bool (!v))/\Bl W w':=by
 obtain⟨ad,ca,rfl⟩:=hs.shape;obtain⟨m,hm⟩:∃m,n.length=m:=⟨_,rfl⟩
 rw[hm] at hg⊢;clear hs hm;obtain⟨st,tt,⟨zk,⟨z1,z2,z3⟩,zt,zn,zo,za⟩,al⟩:=y;have HG:=aB hg;have hbx:bx<W.heap.size:=(by have:=bB _ _ hx;simpa using this);clear hg;show eg 177 #[.agg #[.bool st,S tt,.int .i64 zk,.int .i64 z1,.int .i64 z2,S z3,S zt,S zn,.int .i64 zo,.slice ad m ca,S al],.pointer (some ⟨bx,0,none⟩)] W _;go_enter func177,ntmps177;go_wp2_with fail;refine(HG.o _ ?_).mono ?_
 ·first |exact Bl.refl _|exact(Bl.refl _).alloc _|exact((Bl.refl _).alloc _).alloc _
 rintro e w1 ⟨rfl,hb1⟩;go_wp2;go_ret;exact⟨rfl,by first |exact hb1|exact((Bl.refl _).alloc _).call hb1|exact(((Bl.refl _).alloc _).alloc _).call hb1⟩
theorem d7w(args:Array Value)(w:World):(callFunc 177 args).run prog w= .ok (.enter 177 args) w:=by
 simp[go_sem]
theorem e2c{W:World}{a:Option Addr}{cap:Nat}{l:List It}{p:It->Bool}{q:Nat->Prop}{g:FuncId}(heng:∀(args:Array Value) (w:World),(callFunc g args).run prog w= .ok (.enter g args) w)(hlen:l.length<=1000000)(hR:d2p fIt q W (.slice a l.length cap) l)(most:Int)
  (hg:∀y∈l,∀(W':World) (s:Value),Bl W W'->bG q W' s (Form.ex fIt y).args->eg g #[.agg (fIt.cells y s).toArray] W' fun e w'=>e= .returned (.bool (p y))/\Bl W' w'):
  eg 115 #[.slice a l.length cap,.int .i64 most,.func (.func g) #[] #[]] W fun e w'=>e= .returned (.bool (decide ((l.length:Int)<=most)&&l.all p))/\Bl W w':=by
 have HB0:=aB ((Bl.refl W).alloc (.cells #[.func (.func g) #[] #[]] 174));have hb0:=cK (aN W (.cells #[.func (.func g) #[] #[]] 174));have H1:=aB (e5n (W:=W.alloc (.cells #[.func (.func g) #[] #[]] 174)) #[.pointer (some ⟨W.heap.size,0,none⟩)] d7w hlen (hR.bl HB0.o) (p:=fun y=> !p y)
  fun y hy W' s hb hr=>e0e heng (hb.cell hb0) hr fun W2 hb2=>hg y hy W2 s ((HB0.o.call hb).call hb2) (hr.bl hb2))
 by_cases hm:(l.length:Int)<=most
 case neg=>
  rw[decide_eq_false hm,pK];generalize l.length=m at *;clear H1 hR hg hlen hb0;go_enter func115,ntmps115;go_wp2;go_ret;exact⟨rfl,HB0.o⟩
 rw[decide_eq_true hm,rC,<-d9b];generalize (l.any fun y=> !p y)=R at *;generalize l.length=m at *;clear hR hg hlen hb0;go_enter func115,ntmps115;go_wp2_with fail;refine H1.o.mono ?_;rintro e w1 ⟨rfl,hb1⟩;go_wp2;go_ret;exact⟨rfl,HB0.o.call hb1⟩
end
section
structure e0m(x:Ex):Prop where
 parts:fC x<=1000000
 lens:Lens x
 fits:Fits x
 text:eH x=true->(eY x).length<=100000000
theorem e2n(s:List UInt8):eH (.mk 2 (0,0,[]) [] s 0 [])=mO s:=by
 rw[a7f];simp[dV]
abbrev zEV:Value:=EV 0 (0,0,[]) [] [] 0 (.slice none 0 0)
theorem e1c(W:World):eO W zeroE zEV:=⟨_,rfl,gU.nil _ none 0⟩
theorem d8d(s:List UInt8)(hs:s.length<=9223372036854775807)(W:World)(hG:nD W):eg 208 #[S s] W fun e w'=>e= .returned (.bool (mO s))/\Bl W w':=by
 have HE:Hid (∀w,Bl W w->eg 155 #[EV 2 (0,0,[]) [] s 0 (.slice none 0 0)] w fun e w'=>e= .returned (.int .i64 (if mO s=true then 0 else 2))/\Bl w w'):=fun w hb=>by
  have h:=yO 1 (.mk 2 (0,0,[]) [] s 0 []) (by simp[fC,fF]) ae (.mk _ _ _ _ _ _ ae hs (fun y h=>by cases h)) w _ ⟨_,rfl,gU.nil _ none 0⟩ (hG.bl hb);unfold ckN at h;rw[e2n] at h;exact h
 generalize mO s=r at *;clear hG hs;go_enter func208,ntmps208;go_wp2_with fail;refine(HE.o _ ?_).mono ?_
 ·first |exact Bl.refl _|exact(Bl.refl _).alloc _
 rintro e w1 ⟨rfl,hb⟩;cases r
 all_goals
  go_wp2;go_ret;exact⟨rfl,by first |exact hb|exact((Bl.refl _).alloc _).call hb⟩
theorem d5f(s:List UInt8)(hs:s.length<=9223372036854775807)(W:World)(hG:nD W):eg 178 #[S s] W fun e w'=>e= .returned (.bool (d3c s))/\Bl W w':=by
 by_cases h0:s=[]
 ·subst h0;go_enter func178,ntmps178;go_wp2;go_ret;exact⟨rfl,Bl.refl _⟩
 have HG:=aB hG;have hb0:(s==[])=false:=cA;have HE:Hid (d3c s=mO s):=(by show _=_;unfold d3c;rw[hb0,Bool.false_or]);rw[HE.o];clear hG h0;go_enter func178,ntmps178;go_wp2_with fail;refine(d8d s hs _ HG.o).mono ?_;rintro e w1 ⟨rfl,hb⟩;go_wp2;go_ret;exact⟨rfl,hb⟩
theorem d5d{x:Ex}(hp:fC x<=1000000)(W:World)(v:Value)(hv:eO W x v):eg 144 #[v] W fun e w'=>e= .returned (.bool (d3i x))/\Bl W w':=by
 have HE:Hid (∀w,Bl W w->eg 39 #[v,zEV] w fun e w'=>e= .returned (.bool (d3i x))/\Bl w w'):=fun w hb=>b7d _ x zeroE (aH _) hp w v _ (hv.bl hb) (e1c w);obtain⟨sv,rfl,hR⟩:=hv;obtain⟨a,cap,rfl,-⟩:=hR.shape;generalize d3i x=r at *;clear hR hp;obtain⟨k,⟨v1,v2,v3⟩,t,n,o,args⟩:=x;simp only[Ex.k,Ex.v,Ex.t,Ex.n,Ex.o,Ex.args] at *;go_enter func144,ntmps144;go_wp2_with fail;refine(HE.o _ ?_).mono ?_
 ·first |exact Bl.refl _|exact(Bl.refl _).alloc _|exact((Bl.refl _).alloc _).alloc _
 rintro e w1 ⟨rfl,hb⟩;go_wp2;go_ret;exact⟨rfl,by first |exact hb|exact((Bl.refl _).alloc _).call hb|exact(((Bl.refl _).alloc _).alloc _).call hb⟩
theorem d3u{x:Ex}(hp:e0m x)(W:World)(v:Value)(hv:eO W x v)(hG:nD W):eg 145 #[v] W fun e w'=>e= .returned (.bool (eH x))/\Bl W w':=by
 have HE:Hid (∀w,Bl W w->eg 155 #[v] w fun e w'=>e= .returned (.int .i64 (if eH x=true then 0 else 2))/\Bl w w'):=fun w hb=>yO _ x (aH _) hp.parts hp.lens w v (hv.bl hb) (hG.bl hb);obtain⟨sv,rfl,hR⟩:=hv;obtain⟨a,cap,rfl,-⟩:=hR.shape;generalize eH x=r at *;clear hR hp hG;obtain⟨k,⟨v1,v2,v3⟩,t,n,o,args⟩:=x;simp only[Ex.k,Ex.v,Ex.t,Ex.n,Ex.o,Ex.args] at *;go_enter func145,ntmps145;go_wp2_with fail;refine(HE.o _ ?_).mono ?_
 ·first |exact Bl.refl _|exact(Bl.refl _).alloc _
 rintro e w1 ⟨rfl,hb⟩;cases r
 all_goals
  go_wp2;go_ret;exact⟨rfl,by first |exact hb|exact((Bl.refl _).alloc _).call hb⟩
theorem d7h{x:Ex}(hp:e0m x)(hC:eH x=true)(W:World)(v:Value)(hv:eO W x v)(hG:nD W):eg 122 #[v] W fun e w'=>e= .returned (S (eY x))/\Bl W w':=by
 have HE:Hid (∀w,Bl W w->eg 114 #[v] w fun e w'=>e= .returned (.tuple #[S (eY x),.int .i64 0])/\Bl w w'):=fun w hb=>a6k hp.parts hC hp.fits hp.lens (hp.text hC) w v (hv.bl hb) (hG.bl hb);obtain⟨sv,rfl,hR⟩:=hv;obtain⟨a,cap,rfl,-⟩:=hR.shape;generalize eY x=r at *;clear hR hp hG hC;obtain⟨k,⟨v1,v2,v3⟩,t,n,o,args⟩:=x;simp only[Ex.k,Ex.v,Ex.t,Ex.n,Ex.o,Ex.args] at *;go_enter func122,ntmps122;go_wp2_with fail;refine(HE.o _ ?_).mono ?_
 ·first |exact Bl.refl _|exact(Bl.refl _).alloc _
 rintro e w1 ⟨rfl,hb⟩;go_wp2;go_ret;exact⟨rfl,by first |exact hb|exact((Bl.refl _).alloc _).call hb⟩
abbrev d4d(s:List UInt8):Prop:=s.length<=9223372036854775807
structure e7f(i:It):Prop where
 x:e0m i.x
 t:d4d i.t
 al:d4d i.al
structure e7e(s:So):Prop where
 t:d4d s.t
 al:d4d s.al
structure e1a(q:Qu):Prop where
 items:∀i∈q.items,e7f i
 frm:e7e q.frm
 joins:∀j∈q.joins,e7e j.s/\e0m j.on
 wher:e0m q.wher
 group:∀x∈q.group,e0m x
 having:e0m q.having
 orders:∀o∈q.orders,e0m o.x
 li:q.items.length<=1000000
 lj:q.joins.length<=1000000
 lg:q.group.length<=1000000
 lo:q.orders.length<=1000000
 text:d3e q=true->(d8n q).length<=100000000
 lim: -9223372036854775808<=q.limit/\q.limit<=9223372036854775807
abbrev e6e(st:Bool)(t:List UInt8)(k v1 v2:Int)(v3 xt xn:List UInt8)(o:Int)(a:Value)(al:List UInt8):List Value:=[.bool st,S t,.int .i64 k,.int .i64 v1,.int .i64 v2,S v3,S xt,S xn,.int .i64 o,a,S al]
theorem d3y{w:World}{b:Nat}{st:Bool}{t:List UInt8}{k v1 v2:Int}{v3 xt xn:List UInt8}{o:Int}{a:Value}{al:List UInt8}{T:TypeId}(h:w.heap[b]?=some (.cells (e6e st t k v1 v2 v3 xt xn o a al).toArray T (0,0))):
  w.cell? ⟨b,0,none⟩=some (.bool st)/\w.cell? ⟨b,1,none⟩=some (S t)/\w.cell? ⟨b,2,none⟩=some (.int .i64 k)/\w.cell? ⟨b,3,none⟩=some (.int .i64 v1)/\w.cell? ⟨b,4,none⟩=some (.int .i64 v2)/\w.cell? ⟨b,5,none⟩=some (S v3)/\
  w.cell? ⟨b,6,none⟩=some (S xt)/\w.cell? ⟨b,7,none⟩=some (S xn)/\w.cell? ⟨b,8,none⟩=some (.int .i64 o)/\w.cell? ⟨b,9,none⟩=some a/\w.cell? ⟨b,10,none⟩=some (S al):=
 ⟨(aG h 0).trans rfl,(aG h 1).trans rfl,(aG h 2).trans rfl,(aG h 3).trans rfl,(aG h 4).trans rfl,(aG h 5).trans rfl,(aG h 6).trans rfl,(aG h 7).trans rfl,(aG h 8).trans rfl,(aG h 9).trans rfl,(aG h 10).trans rfl⟩
theorem e1y{i:It}(hi:e7f i){p:Nat->Prop}{W:World}{s:Value}(hr:bG p W s i.x.args)(hG:nD W):eg 116 #[.agg (fIt.cells i s).toArray] W fun e w'=>e= .returned (.bool (d3r i))/\Bl W w':=by
 obtain⟨a,c,rfl⟩:=hr.shape;obtain⟨st,t,x,al⟩:=i;have hR:gU W (.slice a x.args.length c) x.args:=hr.reads;have HG:=aB hG;have H1:Hid (∀w,Bl W w->eg 144 #[EV x.k x.v x.t x.n x.o (.slice a x.args.length c)] w fun e w'=>e= .returned (.bool (d3i x))/\Bl w w'):=fun w hb=>d5d hi.x.parts w _ ⟨_,rfl,hR.bl hb⟩;have H2:Hid (∀w,Bl W w->eg 145 #[EV x.k x.v x.t x.n x.o (.slice a x.args.length c)] w fun e w'=>e= .returned (.bool (eH x))/\Bl w w'):=fun w hb=>d3u hi.x w _ ⟨_,rfl,hR.bl hb⟩ (HG.o.bl hb);have H3:Hid (∀w,Bl W w->eg 178 #[S t] w fun e w'=>e= .returned (.bool (d3c t))/\Bl w w'):=fun w hb=>d5f t hi.t w (HG.o.bl hb);have H4:Hid (∀w,Bl W w->eg 178 #[S al] w fun e w'=>e= .returned (.bool (d3c al))/\Bl w w'):=fun w hb=>d5f al hi.al w (HG.o.bl hb);have HE:Hid (d3r ⟨st,t,x,al⟩=if st=true then d3i x&&al==[]&&d3c t else t==[]&&eH x&&d3c al):=rfl;rw[HE.o];clear hr hR hG hi HE;generalize d3i x=r1 at *;generalize eH x=r2 at *;generalize d3c t=r3 at *;generalize d3c al=r4 at *;obtain⟨k,⟨v1,v2,v3⟩,xt,xn,o,args⟩:=x;simp only[Ex.k,Ex.v,Ex.t,Ex.n,Ex.o,Ex.args] at *;generalize args.length=m at *;show eg 116 #[.agg (e6e st t k v1 v2 v3 xt xn o (.slice a m c) al).toArray] W _;have HX:=aB (aN W (.cells (e6e st t k v1 v2 v3 xt xn o (.slice a m c) al).toArray 103));have HB1:=aB ((Bl.refl W).alloc (.cells (e6e st t k v1 v2 v3 xt xn o (.slice a m c) al).toArray 103));obtain⟨c0,c1,c2,c3,c4,c5,c6,c7,c8,c9,c10⟩:=d3y HX.o;cases st
 ·by_cases ht:t=[]
  case neg=>
   have hb:(t==[])=false:=cI;rw[if_neg ae,hb,pK,pK];clear ht;go_enter func116,ntmps116;go_wp2;go_ret;exact⟨rfl,HB1.o⟩
  subst ht;cases r2
  ·clear H1 H3 H4;go_enter func116,ntmps116;go_wp2_with fail;refine(H2.o _ HB1.o).mono ?_;rintro e w9 ⟨rfl,hb⟩
   replace HB1:=aB (HB1.o.call hb)
   replace HX:=aB ((hb.block _ (aC.1 HX.o).1).trans HX.o)
   clear hb c0 c1 c2 c3 c4 c5 c6 c7 c8 c9 c10;obtain⟨c0,c1,c2,c3,c4,c5,c6,c7,c8,c9,c10⟩:=d3y HX.o;go_wp2;go_ret;exact⟨rfl,HB1.o⟩
  ·clear H1 H3;go_enter func116,ntmps116;go_wp2_with fail;refine(H2.o _ HB1.o).mono ?_;rintro e w9 ⟨rfl,hb⟩
   replace HB1:=aB (HB1.o.call hb)
   replace HX:=aB ((hb.block _ (aC.1 HX.o).1).trans HX.o)
   clear hb c0 c1 c2 c3 c4 c5 c6 c7 c8 c9 c10;obtain⟨c0,c1,c2,c3,c4,c5,c6,c7,c8,c9,c10⟩:=d3y HX.o;go_wp2_with fail;refine(H4.o _ HB1.o).mono ?_;rintro e w9 ⟨rfl,hb⟩
   replace HB1:=aB (HB1.o.call hb)
   replace HX:=aB ((hb.block _ (aC.1 HX.o).1).trans HX.o)
   clear hb c0 c1 c2 c3 c4 c5 c6 c7 c8 c9 c10;obtain⟨c0,c1,c2,c3,c4,c5,c6,c7,c8,c9,c10⟩:=d3y HX.o;go_wp2;go_ret;exact⟨rfl,HB1.o⟩
 ·cases r1
  ·clear H2 H3 H4;go_enter func116,ntmps116;go_wp2_with fail;refine(H1.o _ HB1.o).mono ?_;rintro e w9 ⟨rfl,hb⟩
   replace HB1:=aB (HB1.o.call hb)
   replace HX:=aB ((hb.block _ (aC.1 HX.o).1).trans HX.o)
   clear hb c0 c1 c2 c3 c4 c5 c6 c7 c8 c9 c10;obtain⟨c0,c1,c2,c3,c4,c5,c6,c7,c8,c9,c10⟩:=d3y HX.o;go_wp2;go_ret;exact⟨rfl,HB1.o⟩
  ·by_cases ht:al=[]
   case neg=>
    have hb:(al==[])=false:=cI;rw[if_pos rfl,hb,rC,pK];clear ht H2 H3 H4;go_enter func116,ntmps116;go_wp2_with fail;refine(H1.o _ HB1.o).mono ?_;rintro e w9 ⟨rfl,hb⟩
    replace HB1:=aB (HB1.o.call hb)
    replace HX:=aB ((hb.block _ (aC.1 HX.o).1).trans HX.o)
    clear hb c0 c1 c2 c3 c4 c5 c6 c7 c8 c9 c10;obtain⟨c0,c1,c2,c3,c4,c5,c6,c7,c8,c9,c10⟩:=d3y HX.o;go_wp2;go_ret;exact⟨rfl,HB1.o⟩
   subst ht;clear H2 H4;go_enter func116,ntmps116;go_wp2_with fail;refine(H1.o _ HB1.o).mono ?_;rintro e w9 ⟨rfl,hb⟩
   replace HB1:=aB (HB1.o.call hb)
   replace HX:=aB ((hb.block _ (aC.1 HX.o).1).trans HX.o)
   clear hb c0 c1 c2 c3 c4 c5 c6 c7 c8 c9 c10;obtain⟨c0,c1,c2,c3,c4,c5,c6,c7,c8,c9,c10⟩:=d3y HX.o;go_wp2_with fail;refine(H3.o _ HB1.o).mono ?_;rintro e w9 ⟨rfl,hb⟩
   replace HB1:=aB (HB1.o.call hb)
   replace HX:=aB ((hb.block _ (aC.1 HX.o).1).trans HX.o)
   clear hb c0 c1 c2 c3 c4 c5 c6 c7 c8 c9 c10;obtain⟨c0,c1,c2,c3,c4,c5,c6,c7,c8,c9,c10⟩:=d3y HX.o;go_wp2;go_ret;exact⟨rfl,HB1.o⟩
theorem d8z(args:Array Value)(w:World):(callFunc 116 args).run prog w= .ok (.enter 116 args) w:=by simp[go_sem]
theorem e1x{l:List It}(hl:l.length<=1000000)(hi:∀i∈l,e7f i){p:Nat->Prop}{W:World}{v:Value}(hr:d2p fIt p W v l)(hG:nD W):eg 74 #[v] W fun e w'=>e= .returned (.bool (d4l l))/\Bl W w':=by
 obtain⟨a,c,rfl,-⟩:=hr.shape;have H1:=aB (e2c (g:=116) d8z hl hr 32 (p:=d3r) fun y hy W' s hb hs=>e1y (hi y hy) hs (hG.bl hb));have HE:Hid (d4l l=(decide (0<l.length)&&(decide ((l.length:Int)<=32)&&l.all d3r))):=by
  show _=_;unfold d4l;rw[Bool.and_assoc]
  congr 2
  exact decide_eq_decide.2 aE
 rw[HE.o];clear hr hi hG HE;generalize (decide ((l.length:Int)<=32)&&l.all d3r)=r at *;by_cases h0:0<l.length
 ·rw[decide_eq_true h0,rC];have h0':(0:Int)<(l.length:Int):=aE;generalize l.length=m at *;clear hl;go_enter func74,ntmps74;go_wp2_with fail;refine H1.o.mono ?_;rintro e w1 ⟨rfl,hb⟩;go_wp2;go_ret;exact⟨rfl,hb⟩
 ·rw[decide_eq_false h0,pK];have h0':¬(0:Int)<(l.length:Int):=aE;generalize l.length=m at *;clear hl H1;go_enter func74,ntmps74;go_wp2;go_ret;exact⟨rfl,Bl.refl _⟩
end
section
theorem d7l{s t:List UInt8}:∀{l:List (List UInt8)},t∈l->t.length<=(jR s l).length
 |[x],h=>by
  obtain rfl:=gQ.1 h;exact aH _
 |x::y::r,h=>by
  show _<=(x++s++jR s (y::r)).length;simp only[bD];rcases dD.1 h with rfl|h
  ·omega
  ·have:=d7l (s:=s) h;omega
theorem e2j(s al:List UInt8):d4t s al=if al=[] then s else jR [32] [s,wAs,al]:=by
 unfold d4t;split
 ·rfl
 ·simp[jR]
end
section
theorem d2t.shapes{p:Nat->Prop}{W:World}{q:Qu}{si sj sw sg sh so:Value}(h:d2t p W q si sj sw sg sh so):∃ai ci aj cj aw cw ag cg ah ch ao co,si= .slice ai q.items.length ci/\sj= .slice aj q.joins.length cj/\sw= .slice aw q.wher.args.length cw/\sg= .slice ag q.group.length cg/\sh= .slice ah q.having.args.length ch/\so= .slice ao q.orders.length co:=by
 obtain⟨ai,ci,e1,-⟩:=h.items.shape;obtain⟨aj,cj,e2,-⟩:=h.joins.shape;obtain⟨aw,cw,e3⟩:=h.wher.shape;obtain⟨ag,cg,e4⟩:=h.group.shape;obtain⟨ah,ch,e5⟩:=h.having.shape;obtain⟨ao,co,e6,-⟩:=h.orders.shape;exact⟨ai,ci,aj,cj,aw,cw,ag,cg,ah,ch,ao,co,e1,e2,e3,e4,e5,e6⟩
theorem d2t.shape{p:Nat->Prop}{W:World}{q:Qu}{si sj sw sg sh so:Value}(h:d2t p W q si sj sw sg sh so):∃ai ci aj cj aw cw ag cg ah ch ao co,si= .slice ai q.items.length ci/\sj= .slice aj q.joins.length cj/\sw= .slice aw q.wher.args.length cw/\sg= .slice ag q.group.length cg/\sh= .slice ah q.having.args.length ch/\so= .slice ao q.orders.length co:=h.shapes
end
section
attribute [local go_sem] nC
abbrev Wh(α:Type):=α×Option Addr×Nat
section
variable {α:Type}
def Form.sv(F:Form α)(q:Wh α):Value:= .slice q.2.1 (F.ex q.1).args.length q.2.2
def Form.v(F:Form α)(q:Wh α):Value:= .agg (F.cells q.1 (F.sv q)).toArray
def d7o(F:Form α)(z:Wh α)(n₀:Nat)(W:World)(sv:Value)(zs:List (Wh α)):Prop:=
 ∃a cap,sv= .slice a zs.length cap/\∀j,j<zs.length->∃b off,a=some ⟨b,off,none⟩/\b<n₀/\d2k W b (off+j * F.n) (F.cells (zs[j]?.getD z).1 (F.sv (zs[j]?.getD z)))
theorem d7o.any{F:Form α}{z:Wh α}{n₀:Nat}{W:World}{sv:Value}{zs:List (Wh α)}(k:d7o F z n₀ W sv zs)(z':Wh α):d7o F z' n₀ W sv zs:=by
 obtain⟨a,cap,e,hc⟩:=k;refine⟨a,cap,e,fun j hj=>?_⟩;have h:=hc j hj;rw[aP hj,oQ] at h⊢;exact h
theorem d7o.below{F:Form α}{z:Wh α}{n₀:Nat}{A B:World}(h:Below n₀ A B){sv:Value}{zs:List (Wh α)}(k:d7o F z n₀ A sv zs):d7o F z n₀ B sv zs:=by
 obtain⟨a,cap,e,hc⟩:=k;refine⟨a,cap,e,fun j hj=>?_⟩;obtain⟨b,off,e2,hb,hcs⟩:=hc j hj;exact⟨b,off,e2,hb,hcs.keep (h.block b hb)⟩
theorem d6w{F:Form α}{p:Nat->Prop}(z:Wh α){W:World}{sv:Value}{l:List α}(h:d2p F p W sv l):∃zs:List (Wh α),zs.map (·.1)=l/\d7o F z W.heap.size W sv zs/\∀q∈zs,bG p W (F.sv q) (F.ex q.1).args:=by
 obtain⟨a,cap,s,e,h⟩:=h;have hs:∀j,∃p:Option Addr×Nat,∀x,l[j]?=some x->s j= .slice p.1 (F.ex x).args.length p.2:=fun j=>by
  cases hx:l[j]? with
  |none=>exact⟨(none,0),fun x h=>by cases h⟩
  |some x=>
   obtain⟨-,-,-,-,-,-,hr⟩:=h j x hx;obtain⟨a',c',e⟩:=hr.shape;exact⟨(a',c'),fun y hy=>by injection hy with hy;subst hy;exact e⟩
 obtain⟨G,hG⟩:=Classical.axiomOfChoice hs;have hg:∀j (hj:j<l.length),(((iU l.length).map fun j=>((l[j]?.getD z.1,G j):Wh α))[j]?.getD z)=((l[j],G j):Wh α):=fun j hj=>(by simp[hj]);refine⟨(iU l.length).map fun j=>(l[j]?.getD z.1,G j),?_,⟨a,cap,by simpa using e,fun j hj=>?_⟩,fun q hq=>?_⟩
 ·apply kX
  ·simp
  ·intro i h1 h2;have:i<l.length:=h2;simp[this]
 ·have hj':j<l.length:=by simpa using hj
  rw[hg j hj'];have hx:l[j]?=some l[j]:=aP hj';obtain⟨b,off,ea,hb,hl,hc,hr⟩:=h j _ hx;rw[hG j _ hx] at hc;exact⟨b,off,ea,hl,hc⟩
 ·obtain⟨j,hj,rfl⟩:=List.mem_map.1 hq;have hj':j<l.length:=cD;have hx:l[j]?=some l[j]:=aP hj';obtain⟨b,off,ea,hb,hl,hc,hr⟩:=h j _ hx;rw[hG j _ hx] at hr;rw[hx,oQ];exact hr
end
def itZ:Wh It:=(⟨false,[],zeroE,[]⟩,none,0)
theorem e2w(z:Wh It)(F:Fence)(n:Nat)(h7:F.fn 179)(hro:F.round=none)(hn:1<=n)(l Bs n₀ b off len cap:Nat)(zs:List (Wh It))(hreach:len<=1000000)(hb:0<len->b<n₀)(J Jx:List Nat->World->Prop)(hJ:∀pre W o,J pre W->J pre (W.alloc o))
  (hY:∀pre x W,J pre W->pre.length<len->YieldAt F (n-1) prog l #[Form.v fIt (zs[x]?.getD z)] W fun e W'=>
   (e= .returned (.bool true)/\J (pre++[x]) W'/\Below n₀ W W')\/(e= .returned (.bool false)/\Jx (pre++[x]) W'))
  (W:World) (hn₀:n₀<=W.heap.size) (hBs:W.cell? ⟨Bs,0,none⟩=some (.slice (some ⟨b,off,none⟩) len cap)) (hc:∀j,j<len->d2k W b (off+j * 11) (fIt.cells (zs[j]?.getD z).1 (Form.sv fIt (zs[j]?.getD z)))) (h0:J [] W):
  CallsIn F n prog 179 #[.func (.yield l) #[] #[],.pointer (some ⟨Bs,0,none⟩)] W fun e W'=>(∃v,e= .returned v)/\
   ((∃ys,ys=upto (fun j=>j) len/\J ys W')\/(∃pre,(∃k,k<=len/\pre=upto (fun j=>j) k)/\Jx pre W')):=by
 refine callsIn_of_wp func179 rfl h7 ?_ hro;simp only[ntmps179,gG,aX,bL,Nat.reduceAdd,Nat.reduceSub,eX,eU,gH,fD,cB,bE]
 gi_wp2
 gi_loopw [7] (fun i wr=>∃k:Nat,k<=len/\i= .int .i64 k/\J (upto (fun j=>j) k) wr/\Hid (Below n₀ W wr))
  (fun i _=>len-(intOf i).toNat)
 case atStart=>exact⟨0,dL _,rfl,h0,bS _ _⟩
 case round=>
  obtain⟨k,hk,rfl,hJs,HN⟩:=hrel;by_cases hlt:k<len
  ·have HY:=aB (fun o=>hY _ k (wr.alloc o) (hJ _ _ _ hJs) (by rw[zN];exact hlt));have hzw:=HN.o.size;have hcs:=(hc k hlt).keep (HN.o.block b (hb aE));generalize hz:zs[k]?.getD z=zz at *;have HZ:=aB hz;clear hz;obtain⟨⟨st,tt,⟨zk,⟨z1,z2,z3⟩,zt,zn,zo,za⟩,al⟩,ad,ca⟩:=zz;have e0:wr.cell? ⟨b,off+k * 11,none⟩=some (.bool st):=hcs 0 _ rfl;have e1:wr.cell? ⟨b,off+k * 11+1,none⟩=some (S tt):=hcs 1 _ rfl;have e2:wr.cell? ⟨b,off+k * 11+2,none⟩=some (.int .i64 zk):=hcs 2 _ rfl;have e3:wr.cell? ⟨b,off+k * 11+3,none⟩=some (.int .i64 z1):=hcs 3 _ rfl;have e4:wr.cell? ⟨b,off+k * 11+4,none⟩=some (.int .i64 z2):=hcs 4 _ rfl;have e5:wr.cell? ⟨b,off+k * 11+5,none⟩=some (S z3):=hcs 5 _ rfl;have e6:wr.cell? ⟨b,off+k * 11+6,none⟩=some (S zt):=hcs 6 _ rfl;have e7:wr.cell? ⟨b,off+k * 11+7,none⟩=some (S zn):=hcs 7 _ rfl;have e8:wr.cell? ⟨b,off+k * 11+8,none⟩=some (.int .i64 zo):=hcs 8 _ rfl;have e9:wr.cell? ⟨b,off+k * 11+9,none⟩=some (.slice ad za.length ca):=hcs 9 _ rfl;have e10:wr.cell? ⟨b,off+k * 11+10,none⟩=some (S al):=hcs 10 _ rfl;clear hcs;obtain⟨fn,tmps,assign,body,hy,hR⟩:=HY.o (.cells #[.bool st,S tt,.int .i64 zk,.int .i64 z1,.int .i64 z2,S z3,S zt,S zn,.int .i64 zo,.slice ad za.length ca,S al] 103)
   replace hy:(Instr.yield l #[.agg #[.bool st,S tt,.int .i64 zk,.int .i64 z1,.int .i64 z2,S z3,S zt,S zn,.int .i64 zo,.slice ad za.length ca,S al]]).run prog (wr.alloc (.cells #[.bool st,S tt,.int .i64 zk,.int .i64 z1,.int .i64 z2,S z3,S zt,S zn,.int .i64 zo,.slice ad za.length ca,S al] 103))= .ok (.round l fn tmps assign body) (wr.alloc (.cells #[.bool st,S tt,.int .i64 zk,.int .i64 z1,.int .i64 z2,S z3,S zt,S zn,.int .i64 zo,.slice ad za.length ca,S al] 103)):=hy
   gi_wp2
   refine hR.mono ?_;rintro e W3 (⟨rfl,hJ3,hk3⟩|⟨rfl,hJx3⟩)
   ·have HK3:=aB hk3;clear hk3
    gi_wp2
    go_roundw
    case rel=>exact⟨k+1,by omega,by simp,by rw[wH];exact hJ3,HN.o.trans (((bS _ wr).alloc aE _).trans HK3.o)⟩
    case measure=>simp[intOf];omega
   ·gi_wp2
    refine bodyPost_ret (results_none rfl _ _ _) rfl ?_;exact⟨⟨_,rfl⟩,.inr ⟨_,⟨k+1,by omega,by rw[wH]⟩,hJx3⟩⟩
  ·obtain rfl:k=len:=by omega
   gi_wp2
   go_end0;exact⟨⟨_,rfl⟩,.inl ⟨_,rfl,hJs⟩⟩
theorem e1j(a:Option Addr)(cap:Nat)(F:Fence)(n:Nat)(h7:F.fn 179)(hro:F.round=none)(l Bs:Nat)(J:List Nat->World->Prop)(W:World)(hBs:W.cell? ⟨Bs,0,none⟩=some (.slice a 0 cap))(h0:J [] W):
  CallsIn F n prog 179 #[.func (.yield l) #[] #[],.pointer (some ⟨Bs,0,none⟩)] W fun e W'=>(∃v,e= .returned v)/\J [] W':=by
 refine callsIn_of_wp func179 rfl h7 ?_ hro;simp only[ntmps179,gG,aX,bL,Nat.reduceAdd,Nat.reduceSub,eX,eU,gH,fD,cB,bE]
 gi_wp2
 gi_loopw [7] (fun i wr=>i= .int .i64 0/\J [] wr) (fun _ _=>0)
 case atStart=>exact⟨rfl,h0⟩
 case round=>
  obtain⟨rfl,hJs⟩:=hrel
  gi_wp2
  go_end0;exact⟨⟨_,rfl⟩,hJs⟩
theorem e4j(F:Fence)(n:Nat)(h5:F.fn 117)(hro:F.round=none)(a:Option Addr)(len cap:Nat)(w:World):
  CallsIn F n prog 117 #[.slice a len cap] w fun e w'=>e= .returned (.func (.func 179) #[] #[.pointer (some ⟨w.heap.size,0,none⟩)])/\w'=w.alloc (.cells #[.slice a len cap] 29):=by
 refine callsIn_of_wp func117 rfl h5 ?_ hro;simp only[ntmps117,gG,aX,bL,Nat.reduceAdd,Nat.reduceSub,eX,eU,gH,fD,cB,bE]
 gi_wp2
 go_ret;exact⟨rfl,rfl⟩
theorem d9z(z:Wh It)(F:Fence)(n:Nat)(h7:F.fn 179)(hro:F.round=none)(hn:1<=n)(Bs n₀:Nat)(sv:Value)(zs:List (Wh It))(hreach:zs.length<=1000000)(w:World)(hBs:Bs<w.heap.size)(hn₀:n₀<=w.heap.size)
  (hc:w.cell? ⟨Bs,0,none⟩=some sv) (hI:d7o fIt z n₀ w sv zs):
  SeqStopsK F n prog 179 #[.pointer (some ⟨Bs,0,none⟩)] (fun x:Nat=> #[Form.v fIt (zs[x]?.getD z)]) (Below n₀) (fun ys=>ys=iU zs.length) (fun pre=>pre<+:iU zs.length) zs.length w:=fun l J Jx W hW hJ _ hY h0=>by
 have hc':=(hW.cell (p:=⟨Bs,0,none⟩) hBs).trans hc;obtain⟨a,cap,rfl,hcs⟩:=hI.below (hW.mono hn₀);by_cases hz:zs=[]
 ·subst hz;exact(e1j a cap F n h7 hro l Bs J W hc' h0).mono fun e W' ⟨he,hj⟩=>⟨he,.inl ⟨_,rfl,hj⟩⟩
 ·have hpos:0<zs.length:=by cases zs with |nil=>exact absurd rfl hz|cons _ _=>simp
  obtain⟨b,off,rfl,hb,-⟩:=hcs 0 hpos;have hcs':∀j,j<zs.length->d2k W b (off+j * 11) (fIt.cells (zs[j]?.getD z).1 (Form.sv fIt (zs[j]?.getD z))):=fun j hj=>by
   obtain⟨b',off',e,_,c⟩:=hcs j hj;injection e with e;injection e with e1 e2 _;subst e1;subst e2;exact c
  refine(e2w z F n h7 hro hn l Bs n₀ b off zs.length cap zs hreach (fun _=>hb) J Jx (fun pre W1 o h=>hJ pre W1 _ none h (World.grownBy_alloc _ _ none) (fun r e=>by cases e)) hY W (jH hn₀ hW.size) hc' hcs' h0).mono ?_;rintro e W' ⟨he,⟨ys,rfl,hj⟩|⟨pre,⟨k,hk,rfl⟩,hj⟩⟩
  ·exact⟨he,.inl ⟨_,a1p _,hj⟩⟩
  ·exact⟨he,.inr ⟨_,by rw[a1p];exact a5l hk,hj⟩⟩
end
section
section
variable {P:Program} {ops:Array Oper} {Q:Exit->Act->World->Prop}
def d8v(ops:Array Oper):Bool:=ops.all fun o=>match o.op with | .defer _=>false|_=>true
theorem e2i(h:d8v ops=true){i:Nat}{o:Oper}(hi:ops[i]?=some o)(c:Call):o.op≠ .defer c:=by
 intro e;have hm:=Array.mem_of_getElem? hi;have:=(Array.all_eq_true_iff_forall_mem.1 h) o hm;rw[e] at this;cases this
theorem e2y(l n:Nat){o:Oper}{a:Act}{K:Act->World->Prop}(r:Result Next)(h:o.upon P a K Q r):o.uponIn (Fence.wide.inRound l) n P a K Q r:=by
 cases r with
 |ok x w=>
  cases x with
  |value v=>exact h
  |skip=>exact h
  |defer d=>exact h
  |enter f args=>exact⟨fun e=>(by cases e),CallsIn.inRound l (callsIn_wide.2 h)⟩
  |row r args=>exact⟨fun e=>(by cases e),fun c cs _=>let⟨v,w',r,s⟩:=h c cs;⟨v,w',r,stepsIn_wide.2 s⟩⟩
  |_=>exact(h:False).elim
 |halt x w=>
  cases x with
  |panic v=>exact h
  |_=>exact(h:False).elim
theorem e1g(l n:Nat){o:Oper}(ho:∀c,o.op≠ .defer c){a:Act}{w:World}{K:Act->World->Prop}(h:o.wp P a w K Q):o.wpIn (Fence.wide.inRound l) n P a w K Q:=by
 refine⟨fun _ _=>trivial,?_⟩;rw[Oper.semAt_plain _ _ _ ho];exact e2y l n _ h
theorem d5j(l n:Nat)(hd:d8v ops=true)(hl:¬LetsOut Q):∀(L:List Nat) (a:Act) (w:World),wpOps P ops Q L a w->wpOpsIn (Fence.wide.inRound l) n P ops Q L a w
 |[],_,_,h=>h
 |i::L,a,w,h=>by
  simp only[wpOps] at h;simp only[wpOpsIn];cases hi:ops[i]? with
  |none=>
   rw[hi] at h;exact d5j l n hd hl L a w h
  |some o=>
   rw[hi] at h;simp only at h⊢;split
   ·rename_i hw;rw[if_pos hw] at h;rcases h with h|h
    ·exact Oper.wpIn_mono (fun a w hk=>d5j l n hd hl L a w hk) (e1g l n (e2i hd hi) h)
    ·exact absurd h.2 hl
   ·rename_i hw;rw[if_neg hw] at h;exact⟨fun _ _=>trivial,d5j l n hd hl L _ w h⟩
theorem d3p{l n id:Nat}{a:Act}{w:World}(S:World->Prop)(s:Sc)(hm:P.follows .mixedOrders=true)(hs:jZ ops=true)(hB:scB ops ops.size s (kD ops.size false)=true)
  (hQ:∀(c:_) (a:Act) (d:Option Tmp) (v:Value) (w:World),Q (.panic c) (a.put d v) w->Q (.panic c) a w) (hd:d8v ops=true) (hl:∀a w,Q .outgrown a w->False) (hS:S w.drew) (h:∀wd,Hid (Bl w wd)->S wd->a2w P ops Q S s a wd):(Code.region id ops true).wpIn (Fence.wide.inRound l) n P Q a w:=
 wpIn_region_draw fun t=>by
  simp only[Region.schedule,hm,Bool.true_or,if_true];exact d5j l n hd (fun⟨a,w,h⟩=>hl a w h) _ a _ (wpAny_sound ops.size t _ a _ (wpAny_of_held _ _ _ _ (a5f hs hQ s _ _ a _ hB hS (h _ ((Bl.refl w).drew) hS))))
end
end
end Go.Proofs.YtohlomdapelgeaaGreatDoor
