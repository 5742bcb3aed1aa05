/- Texts QX QY QU QI QW QH. -/
import Derived.Test.YtfkekkgfmhcanaaGreatDoorTE
import Derived.Test.YtfkekkgfmhcanaaGreatDoorTF
import Derived.Test.YtfkekkgfmhcanaaGreatDoorTC
import Derived.Test.YtfkekkgfmhcanaaGreatDoorTA
import Derived.RangeFuncCalls
import Derived.OwnWalkIn
namespace Go.Proofs.YtfkekkgfmhcanaaGreatDoor
open _root_.Go.Proofs.Tryz
open Go.RowKit
open Go.RowKit Go.Shelf
open _root_.Array renaming getElem?_eq_some_iff->aC,replicate->kD,replicate_succ->eX,replicate_zero->eU
open _root_.Go.RowKit.Below renaming refl->bS
open _root_.Bool renaming and_eq_true->aQ,false_and->pK,or_eq_true->jO,true_and->rC
open _root_.Go.Lib renaming cell_of_heap->aG,hid->aB,itoa->dQ
open _root_.List renaming append_assoc->iK,append_toArray->fD,cons_append->bE,drop_eq_getElem_cons->aZ,drop_length->dO,ext_getElem->kX,getElem?_eq_getElem->aP,getElem_mem->dS,length_append->bD,length_cons->aX,length_nil->bL,map_cons->kP,mem_cons->dD,mem_singleton->gQ,nil_append->cB,push_toArray->gH,range->iU,size_toArray->gG
open _root_.Nat renaming le_refl->aH,le_trans->jH,zero_le->dL
open _root_.Go.Oper renaming semAt_some->nC
open _root_.Option renaming getD_some->oQ
open _root_.Go.Region renaming noSelect->jZ
open _root_.Go.World renaming block_lt_of_cell?->bB
set_option maxRecDepth 100000
set_option maxHeartbeats 16000000
section
theorem d6z{α:Type}{p:α->Bool}{l:List α}{j:Nat}(h:j<l.length):(l.drop j).any p=(p l[j]||(l.drop (j+1)).any p):=by
 rw[aZ h,List.any_cons]
theorem d9b{α:Type}(p:α->Bool)(l:List α):(!(l.any fun y=> !p y))=l.all p:=by
 induction l with
 |nil=>rfl
 |cons x l ih=>simp only[List.any_cons,List.all_cons,Bool.not_or,Bool.not_not,ih]
theorem e5j{W:World}{a:Option Addr}{cap:Nat}{l:List It}{p:It->Bool}{q:Nat->Prop}{fn:FuncId}(caps:Array Value)(hen:∀(args:Array Value) (w:World),(callFunc fn args).run prog w= .ok (.enter fn args) w)(hlen:l.length<=1000000)(hR:d2p fIt q W (.slice a l.length cap) l)
  (hf:∀y∈l,∀(W':World) (s:Value),Bl W W'->bG q W' s (Form.ex fIt y).args->fb fn (#[.agg (fIt.cells y s).toArray]++caps) W' fun e w'=>e= .returned (.bool (p y))/\Bl W' w'):
  fb 141 #[.slice a l.length cap,.func (.func fn) #[] caps] W fun e w'=>(∃z:Int,e= .returned (.int .i64 z)/\decide (0<=z)=l.any p)/\Bl W w':=by
 obtain⟨a',cap',e,hc⟩:=hR.shape;obtain⟨rfl,rfl⟩:a=a'/\cap=cap':=cG;obtain⟨R,HRR⟩:∃R,Hid (l.any p=R):=⟨_,rfl⟩
 rw[HRR.o];have HC:=aB hc;have HF:=aB hf;clear hR hc hf e;go_enter func141,ntmps141;go_wp2_with fail;go_loopw [8] (fun i wr=>∃j:Nat,j<=l.length/\i= .int .i64 (j:Int)/\Hid (R=(l.drop j).any p)/\Hid (Bl W wr)) (fun i _=>l.length-(intOf i).toNat)
 case atStart=>exact⟨0,dL _,rfl,HRR.o.symm,Bl.refl W⟩
 case round=>
  obtain⟨j,hj,rfl,HD,HB⟩:=hrel;by_cases hlt:j<l.length
  ·obtain⟨b,off,s,rfl,-,hbl,hcs,hr⟩:=HC.o j hlt;have HDj:=aB (HD.o.trans (d6z hlt));have HM:=aB (dS hlt);have HR:=aB (hr.bl HB.o)
   replace hcs:=hcs.keep (HB.o.block b hbl)
   have hlt':(j:Int)<(l.length:Int):=aE;obtain⟨ad,ca,rfl⟩:=hr.shape;clear hr;generalize l[j]=y at *;obtain⟨st,tt,⟨zk,⟨z1,z2,z3⟩,zt,zn,zo,za⟩,al⟩:=y
   replace hcs:d2k wr b (off+j * 11) [.bool st,S tt,.int .i64 zk,.int .i64 z1,.int .i64 z2,S z3,S zt,S zn,.int .i64 zo,.slice ad za.length ca,S al]:=hcs
   have e0:wr.cell? ⟨b,off+j * 11,none⟩=some (.bool st):=hcs 0 _ rfl;have e1:wr.cell? ⟨b,off+j * 11+1,none⟩=some (S tt):=hcs 1 _ rfl;have e2:wr.cell? ⟨b,off+j * 11+2,none⟩=some (.int .i64 zk):=hcs 2 _ rfl;have e3:wr.cell? ⟨b,off+j * 11+3,none⟩=some (.int .i64 z1):=hcs 3 _ rfl;have e4:wr.cell? ⟨b,off+j * 11+4,none⟩=some (.int .i64 z2):=hcs 4 _ rfl;have e5:wr.cell? ⟨b,off+j * 11+5,none⟩=some (S z3):=hcs 5 _ rfl;have e6:wr.cell? ⟨b,off+j * 11+6,none⟩=some (S zt):=hcs 6 _ rfl;have e7:wr.cell? ⟨b,off+j * 11+7,none⟩=some (S zn):=hcs 7 _ rfl;have e8:wr.cell? ⟨b,off+j * 11+8,none⟩=some (.int .i64 zo):=hcs 8 _ rfl;have e9:wr.cell? ⟨b,off+j * 11+9,none⟩=some (.slice ad za.length ca):=hcs 9 _ rfl;have e10:wr.cell? ⟨b,off+j * 11+10,none⟩=some (S al):=hcs 10 _ rfl;clear hcs;go_wp2_with fail;refine(HF.o ⟨st,tt,(.mk zk (z1,z2,z3) zt zn zo za),al⟩ HM.o _ (.slice ad za.length ca) HB.o HR.o).mono ?_;rintro e w1 ⟨rfl,hb1⟩;have HB1:=aB (HB.o.call hb1);clear hb1 e0 e1 e2 e3 e4 e5 e6 e7 e8 e9 e10;cases hs:p ⟨st,tt,(.mk zk (z1,z2,z3) zt zn zo za),al⟩
   ·have HN:=aB (show R=(l.drop (j+1)).any p from by rw[HDj.o,hs,Bool.false_or]);clear hs;go_wp2;go_roundw
    case rel=>exact⟨j+1,by omega,by go_num,HN.o,HB1.o⟩
    case measure=>simp[intOf];omega
   ·have HN:=aB (show decide (0<=(j:Int))=R from by rw[HDj.o,hs,Bool.true_or];simp);clear hs;go_wp2;go_ret;exact⟨⟨_,rfl,HN.o⟩,HB1.o⟩
  ·obtain rfl:j=l.length:=by omega
   have HN:=aB (show decide (0<=(-1:Int))=R from by rw[HD.o,dO];rfl);go_wp2;go_ret;exact⟨⟨_,rfl,HN.o⟩,HB.o⟩
theorem e5n{W:World}{a:Option Addr}{cap:Nat}{l:List It}{p:It->Bool}{q:Nat->Prop}{fn:FuncId}(caps:Array Value)(hen:∀(args:Array Value) (w:World),(callFunc fn args).run prog w= .ok (.enter fn args) w)(hlen:l.length<=1000000)(hR:d2p fIt q W (.slice a l.length cap) l)
  (hf:∀y∈l,∀(W':World) (s:Value),Bl W W'->bG q W' s (Form.ex fIt y).args->fb fn (#[.agg (fIt.cells y s).toArray]++caps) W' fun e w'=>e= .returned (.bool (p y))/\Bl W' w'):
  fb 70 #[.slice a l.length cap,.func (.func fn) #[] caps] W fun e w'=>e= .returned (.bool (l.any p))/\Bl W w':=by
 have H1:=aB (e5j caps hen hlen hR hf);generalize l.any p=R at *;generalize l.length=m at *;clear hR hf hlen hen;go_enter func70,ntmps70;go_wp2_with fail;refine H1.o.mono ?_;rintro e w1 ⟨⟨z,rfl,hz⟩,hb1⟩;have HZ:=aB hz;clear hz;go_wp2;go_ret;exact⟨by rw[<-HZ.o];rfl,hb1⟩
theorem e0e{W:World}{y:It}{s:Value}{v:Bool}{g bx:Nat}(heng:∀(args:Array Value) (w:World),(callFunc g args).run prog w= .ok (.enter g args) w)(hx:W.cell? ⟨bx,0,none⟩=some (.func (.func g) #[] #[])){n:List Ex}{q:Nat->Prop}(hs:bG q W s n)
  (hg:∀W',Bl W W'->fb g #[.agg (fIt.cells y s).toArray] W' fun e w'=>e= .returned (.bool v)/\Bl W' w'):
  fb 178 #[.agg (fIt.cells y s).toArray,.pointer (some ⟨bx,0,none⟩)] W fun e w'=>e= .returned (.bool (!v))/\Bl W w':=by
 obtain⟨ad,ca,rfl⟩:=hs.shape;obtain⟨m,hm⟩:∃m,n.length=m:=⟨_,rfl⟩
 rw[hm] at hg⊢;clear hs hm;obtain⟨st,tt,⟨zk,⟨z1,z2,z3⟩,zt,zn,zo,za⟩,al⟩:=y;have HG:=aB hg;have hbx:bx<W.heap.size:=eg;clear hg;show fb 178 #[.agg #[.bool st,S tt,.int .i64 zk,.int .i64 z1,.int .i64 z2,S z3,S zt,S zn,.int .i64 zo,.slice ad m ca,S al],.pointer (some ⟨bx,0,none⟩)] W _;go_enter func178,ntmps178;go_wp2_with fail;refine(HG.o _ ?_).mono ?_
 ·first |exact Bl.refl _|exact(Bl.refl _).alloc _|exact((Bl.refl _).alloc _).alloc _
 rintro e w1 ⟨rfl,hb1⟩;go_wp2;go_ret;exact⟨rfl,by first |exact hb1|exact((Bl.refl _).alloc _).call hb1|exact(((Bl.refl _).alloc _).alloc _).call hb1⟩
theorem d7w(args:Array Value)(w:World):(callFunc 178 args).run prog w= .ok (.enter 178 args) w:=by
 simp[go_sem]
theorem e2c{W:World}{a:Option Addr}{cap:Nat}{l:List It}{p:It->Bool}{q:Nat->Prop}{g:FuncId}(heng:∀(args:Array Value) (w:World),(callFunc g args).run prog w= .ok (.enter g args) w)(hlen:l.length<=1000000)(hR:d2p fIt q W (.slice a l.length cap) l)(most:Int)
  (hg:∀y∈l,∀(W':World) (s:Value),Bl W W'->bG q W' s (Form.ex fIt y).args->fb g #[.agg (fIt.cells y s).toArray] W' fun e w'=>e= .returned (.bool (p y))/\Bl W' w'):
  fb 134 #[.slice a l.length cap,.int .i64 most,.func (.func g) #[] #[]] W fun e w'=>e= .returned (.bool (decide ((l.length:Int)<=most)&&l.all p))/\Bl W w':=by
 have HB0:=aB ((Bl.refl W).alloc (.cells #[.func (.func g) #[] #[]] 126));have hb0:=cK (aN W (.cells #[.func (.func g) #[] #[]] 126));have H1:=aB (e5n (W:=W.alloc (.cells #[.func (.func g) #[] #[]] 126)) #[.pointer (some ⟨W.heap.size,0,none⟩)] d7w hlen (hR.bl HB0.o) (p:=fun y=> !p y)
  fun y hy W' s hb hr=>e0e heng (hb.cell hb0) hr fun W2 hb2=>hg y hy W2 s ((HB0.o.call hb).call hb2) (hr.bl hb2))
 by_cases hm:(l.length:Int)<=most
 case neg=>
  rw[decide_eq_false hm,pK];generalize l.length=m at *;clear H1 hR hg hlen hb0;go_enter func134,ntmps134;go_wp2;go_ret;exact⟨rfl,HB0.o⟩
 rw[decide_eq_true hm,rC,<-d9b];generalize (l.any fun y=> !p y)=R at *;generalize l.length=m at *;clear hR hg hlen hb0;go_enter func134,ntmps134;go_wp2_with fail;refine H1.o.mono ?_;rintro e w1 ⟨rfl,hb1⟩;go_wp2;go_ret;exact⟨rfl,HB0.o.call hb1⟩
theorem e5i{W:World}{a:Option Addr}{cap:Nat}{l:List Jo}{p:Jo->Bool}{q:Nat->Prop}{fn:FuncId}(caps:Array Value)(hen:∀(args:Array Value) (w:World),(callFunc fn args).run prog w= .ok (.enter fn args) w)(hlen:l.length<=1000000)(hR:d2p fJo q W (.slice a l.length cap) l)
  (hf:∀y∈l,∀(W':World) (s:Value),Bl W W'->bG q W' s (Form.ex fJo y).args->fb fn (#[.agg (fJo.cells y s).toArray]++caps) W' fun e w'=>e= .returned (.bool (p y))/\Bl W' w'):
  fb 183 #[.slice a l.length cap,.func (.func fn) #[] caps] W fun e w'=>(∃z:Int,e= .returned (.int .i64 z)/\decide (0<=z)=l.any p)/\Bl W w':=by
 obtain⟨a',cap',e,hc⟩:=hR.shape;obtain⟨rfl,rfl⟩:a=a'/\cap=cap':=cG;obtain⟨R,HRR⟩:∃R,Hid (l.any p=R):=⟨_,rfl⟩
 rw[HRR.o];have HC:=aB hc;have HF:=aB hf;clear hR hc hf e;go_enter func183,ntmps183;go_wp2_with fail;go_loopw [8] (fun i wr=>∃j:Nat,j<=l.length/\i= .int .i64 (j:Int)/\Hid (R=(l.drop j).any p)/\Hid (Bl W wr)) (fun i _=>l.length-(intOf i).toNat)
 case atStart=>exact⟨0,dL _,rfl,HRR.o.symm,Bl.refl W⟩
 case round=>
  obtain⟨j,hj,rfl,HD,HB⟩:=hrel;by_cases hlt:j<l.length
  ·obtain⟨b,off,s,rfl,-,hbl,hcs,hr⟩:=HC.o j hlt;have HDj:=aB (HD.o.trans (d6z hlt));have HM:=aB (dS hlt);have HR:=aB (hr.bl HB.o)
   replace hcs:=hcs.keep (HB.o.block b hbl)
   have hlt':(j:Int)<(l.length:Int):=aE;obtain⟨ad,ca,rfl⟩:=hr.shape;clear hr;generalize l[j]=y at *;obtain⟨⟨jt,jal⟩,⟨zk,⟨z1,z2,z3⟩,zt,zn,zo,za⟩⟩:=y
   replace hcs:d2k wr b (off+j * 10) [S jt,S jal,.int .i64 zk,.int .i64 z1,.int .i64 z2,S z3,S zt,S zn,.int .i64 zo,.slice ad za.length ca]:=hcs
   have e0:wr.cell? ⟨b,off+j * 10,none⟩=some (S jt):=hcs 0 _ rfl;have e1:wr.cell? ⟨b,off+j * 10+1,none⟩=some (S jal):=hcs 1 _ rfl;have e2:wr.cell? ⟨b,off+j * 10+2,none⟩=some (.int .i64 zk):=hcs 2 _ rfl;have e3:wr.cell? ⟨b,off+j * 10+3,none⟩=some (.int .i64 z1):=hcs 3 _ rfl;have e4:wr.cell? ⟨b,off+j * 10+4,none⟩=some (.int .i64 z2):=hcs 4 _ rfl;have e5:wr.cell? ⟨b,off+j * 10+5,none⟩=some (S z3):=hcs 5 _ rfl;have e6:wr.cell? ⟨b,off+j * 10+6,none⟩=some (S zt):=hcs 6 _ rfl;have e7:wr.cell? ⟨b,off+j * 10+7,none⟩=some (S zn):=hcs 7 _ rfl;have e8:wr.cell? ⟨b,off+j * 10+8,none⟩=some (.int .i64 zo):=hcs 8 _ rfl;have e9:wr.cell? ⟨b,off+j * 10+9,none⟩=some (.slice ad za.length ca):=hcs 9 _ rfl;clear hcs;go_wp2_with fail;refine(HF.o ⟨⟨jt,jal⟩,(.mk zk (z1,z2,z3) zt zn zo za)⟩ HM.o _ (.slice ad za.length ca) HB.o HR.o).mono ?_;rintro e w1 ⟨rfl,hb1⟩;have HB1:=aB (HB.o.call hb1);clear hb1 e0 e1 e2 e3 e4 e5 e6 e7 e8 e9;cases hs:p ⟨⟨jt,jal⟩,(.mk zk (z1,z2,z3) zt zn zo za)⟩
   ·have HN:=aB (show R=(l.drop (j+1)).any p from by rw[HDj.o,hs,Bool.false_or]);clear hs;go_wp2;go_roundw
    case rel=>exact⟨j+1,by omega,by go_num,HN.o,HB1.o⟩
    case measure=>simp[intOf];omega
   ·have HN:=aB (show decide (0<=(j:Int))=R from by rw[HDj.o,hs,Bool.true_or];simp);clear hs;go_wp2;go_ret;exact⟨⟨_,rfl,HN.o⟩,HB1.o⟩
  ·obtain rfl:j=l.length:=by omega
   have HN:=aB (show decide (0<=(-1:Int))=R from by rw[HD.o,dO];rfl);go_wp2;go_ret;exact⟨⟨_,rfl,HN.o⟩,HB.o⟩
theorem e5m{W:World}{a:Option Addr}{cap:Nat}{l:List Jo}{p:Jo->Bool}{q:Nat->Prop}{fn:FuncId}(caps:Array Value)(hen:∀(args:Array Value) (w:World),(callFunc fn args).run prog w= .ok (.enter fn args) w)(hlen:l.length<=1000000)(hR:d2p fJo q W (.slice a l.length cap) l)
  (hf:∀y∈l,∀(W':World) (s:Value),Bl W W'->bG q W' s (Form.ex fJo y).args->fb fn (#[.agg (fJo.cells y s).toArray]++caps) W' fun e w'=>e= .returned (.bool (p y))/\Bl W' w'):
  fb 150 #[.slice a l.length cap,.func (.func fn) #[] caps] W fun e w'=>e= .returned (.bool (l.any p))/\Bl W w':=by
 have H1:=aB (e5i caps hen hlen hR hf);generalize l.any p=R at *;generalize l.length=m at *;clear hR hf hlen hen;go_enter func150,ntmps150;go_wp2_with fail;refine H1.o.mono ?_;rintro e w1 ⟨⟨z,rfl,hz⟩,hb1⟩;have HZ:=aB hz;clear hz;go_wp2;go_ret;exact⟨by rw[<-HZ.o];rfl,hb1⟩
theorem e0d{W:World}{y:Jo}{s:Value}{v:Bool}{g bx:Nat}(heng:∀(args:Array Value) (w:World),(callFunc g args).run prog w= .ok (.enter g args) w)(hx:W.cell? ⟨bx,0,none⟩=some (.func (.func g) #[] #[])){n:List Ex}{q:Nat->Prop}(hs:bG q W s n)
  (hg:∀W',Bl W W'->fb g #[.agg (fJo.cells y s).toArray] W' fun e w'=>e= .returned (.bool v)/\Bl W' w'):
  fb 151 #[.agg (fJo.cells y s).toArray,.pointer (some ⟨bx,0,none⟩)] W fun e w'=>e= .returned (.bool (!v))/\Bl W w':=by
 obtain⟨ad,ca,rfl⟩:=hs.shape;obtain⟨m,hm⟩:∃m,n.length=m:=⟨_,rfl⟩
 rw[hm] at hg⊢;clear hs hm;obtain⟨⟨jt,jal⟩,⟨zk,⟨z1,z2,z3⟩,zt,zn,zo,za⟩⟩:=y;have HG:=aB hg;have hbx:bx<W.heap.size:=eg;clear hg;show fb 151 #[.agg #[S jt,S jal,.int .i64 zk,.int .i64 z1,.int .i64 z2,S z3,S zt,S zn,.int .i64 zo,.slice ad m ca],.pointer (some ⟨bx,0,none⟩)] W _;go_enter func151,ntmps151;go_wp2_with fail;refine(HG.o _ ?_).mono ?_
 ·first |exact Bl.refl _|exact(Bl.refl _).alloc _|exact((Bl.refl _).alloc _).alloc _
 rintro e w1 ⟨rfl,hb1⟩;go_wp2;go_ret;exact⟨rfl,by first |exact hb1|exact((Bl.refl _).alloc _).call hb1|exact(((Bl.refl _).alloc _).alloc _).call hb1⟩
theorem d7v(args:Array Value)(w:World):(callFunc 151 args).run prog w= .ok (.enter 151 args) w:=by
 simp[go_sem]
theorem e2a{W:World}{a:Option Addr}{cap:Nat}{l:List Jo}{p:Jo->Bool}{q:Nat->Prop}{g:FuncId}(heng:∀(args:Array Value) (w:World),(callFunc g args).run prog w= .ok (.enter g args) w)(hlen:l.length<=1000000)(hR:d2p fJo q W (.slice a l.length cap) l)(most:Int)
  (hg:∀y∈l,∀(W':World) (s:Value),Bl W W'->bG q W' s (Form.ex fJo y).args->fb g #[.agg (fJo.cells y s).toArray] W' fun e w'=>e= .returned (.bool (p y))/\Bl W' w'):
  fb 85 #[.slice a l.length cap,.int .i64 most,.func (.func g) #[] #[]] W fun e w'=>e= .returned (.bool (decide ((l.length:Int)<=most)&&l.all p))/\Bl W w':=by
 have HB0:=aB ((Bl.refl W).alloc (.cells #[.func (.func g) #[] #[]] 132));have hb0:=cK (aN W (.cells #[.func (.func g) #[] #[]] 132));have H1:=aB (e5m (W:=W.alloc (.cells #[.func (.func g) #[] #[]] 132)) #[.pointer (some ⟨W.heap.size,0,none⟩)] d7v hlen (hR.bl HB0.o) (p:=fun y=> !p y)
  fun y hy W' s hb hr=>e0d heng (hb.cell hb0) hr fun W2 hb2=>hg y hy W2 s ((HB0.o.call hb).call hb2) (hr.bl hb2))
 by_cases hm:(l.length:Int)<=most
 case neg=>
  rw[decide_eq_false hm,pK];generalize l.length=m at *;clear H1 hR hg hlen hb0;go_enter func85,ntmps85;go_wp2;go_ret;exact⟨rfl,HB0.o⟩
 rw[decide_eq_true hm,rC,<-d9b];generalize (l.any fun y=> !p y)=R at *;generalize l.length=m at *;clear hR hg hlen hb0;go_enter func85,ntmps85;go_wp2_with fail;refine H1.o.mono ?_;rintro e w1 ⟨rfl,hb1⟩;go_wp2;go_ret;exact⟨rfl,HB0.o.call hb1⟩
theorem e5k{W:World}{a:Option Addr}{cap:Nat}{l:List Ex}{p:Ex->Bool}{q:Nat->Prop}{fn:FuncId}(caps:Array Value)(hen:∀(args:Array Value) (w:World),(callFunc fn args).run prog w= .ok (.enter fn args) w)(hlen:l.length<=1000000)(hR:d2p fEx q W (.slice a l.length cap) l)
  (hf:∀y∈l,∀(W':World) (s:Value),Bl W W'->bG q W' s (Form.ex fEx y).args->fb fn (#[.agg (fEx.cells y s).toArray]++caps) W' fun e w'=>e= .returned (.bool (p y))/\Bl W' w'):
  fb 181 #[.slice a l.length cap,.func (.func fn) #[] caps] W fun e w'=>(∃z:Int,e= .returned (.int .i64 z)/\decide (0<=z)=l.any p)/\Bl W w':=by
 obtain⟨a',cap',e,hc⟩:=hR.shape;obtain⟨rfl,rfl⟩:a=a'/\cap=cap':=cG;obtain⟨R,HRR⟩:∃R,Hid (l.any p=R):=⟨_,rfl⟩
 rw[HRR.o];have HC:=aB hc;have HF:=aB hf;clear hR hc hf e;go_enter func181,ntmps181;go_wp2_with fail;go_loopw [8] (fun i wr=>∃j:Nat,j<=l.length/\i= .int .i64 (j:Int)/\Hid (R=(l.drop j).any p)/\Hid (Bl W wr)) (fun i _=>l.length-(intOf i).toNat)
 case atStart=>exact⟨0,dL _,rfl,HRR.o.symm,Bl.refl W⟩
 case round=>
  obtain⟨j,hj,rfl,HD,HB⟩:=hrel;by_cases hlt:j<l.length
  ·obtain⟨b,off,s,rfl,-,hbl,hcs,hr⟩:=HC.o j hlt;have HDj:=aB (HD.o.trans (d6z hlt));have HM:=aB (dS hlt);have HR:=aB (hr.bl HB.o)
   replace hcs:=hcs.keep (HB.o.block b hbl)
   have hlt':(j:Int)<(l.length:Int):=aE;obtain⟨ad,ca,rfl⟩:=hr.shape;clear hr;generalize l[j]=y at *;obtain⟨zk,⟨z1,z2,z3⟩,zt,zn,zo,za⟩:=y
   replace hcs:d2k wr b (off+j * 8) [.int .i64 zk,.int .i64 z1,.int .i64 z2,S z3,S zt,S zn,.int .i64 zo,.slice ad za.length ca]:=hcs
   have e0:wr.cell? ⟨b,off+j * 8,none⟩=some (.int .i64 zk):=hcs 0 _ rfl;have e1:wr.cell? ⟨b,off+j * 8+1,none⟩=some (.int .i64 z1):=hcs 1 _ rfl;have e2:wr.cell? ⟨b,off+j * 8+2,none⟩=some (.int .i64 z2):=hcs 2 _ rfl;have e3:wr.cell? ⟨b,off+j * 8+3,none⟩=some (S z3):=hcs 3 _ rfl;have e4:wr.cell? ⟨b,off+j * 8+4,none⟩=some (S zt):=hcs 4 _ rfl;have e5:wr.cell? ⟨b,off+j * 8+5,none⟩=some (S zn):=hcs 5 _ rfl;have e6:wr.cell? ⟨b,off+j * 8+6,none⟩=some (.int .i64 zo):=hcs 6 _ rfl;have e7:wr.cell? ⟨b,off+j * 8+7,none⟩=some (.slice ad za.length ca):=hcs 7 _ rfl;clear hcs;go_wp2_with fail;refine(HF.o (.mk zk (z1,z2,z3) zt zn zo za) HM.o _ (.slice ad za.length ca) HB.o HR.o).mono ?_;rintro e w1 ⟨rfl,hb1⟩;have HB1:=aB (HB.o.call hb1);clear hb1 e0 e1 e2 e3 e4 e5 e6 e7;cases hs:p (.mk zk (z1,z2,z3) zt zn zo za)
   ·have HN:=aB (show R=(l.drop (j+1)).any p from by rw[HDj.o,hs,Bool.false_or]);clear hs;go_wp2;go_roundw
    case rel=>exact⟨j+1,by omega,by go_num,HN.o,HB1.o⟩
    case measure=>simp[intOf];omega
   ·have HN:=aB (show decide (0<=(j:Int))=R from by rw[HDj.o,hs,Bool.true_or];simp);clear hs;go_wp2;go_ret;exact⟨⟨_,rfl,HN.o⟩,HB1.o⟩
  ·obtain rfl:j=l.length:=by omega
   have HN:=aB (show decide (0<=(-1:Int))=R from by rw[HD.o,dO];rfl);go_wp2;go_ret;exact⟨⟨_,rfl,HN.o⟩,HB.o⟩
theorem e5o{W:World}{a:Option Addr}{cap:Nat}{l:List Ex}{p:Ex->Bool}{q:Nat->Prop}{fn:FuncId}(caps:Array Value)(hen:∀(args:Array Value) (w:World),(callFunc fn args).run prog w= .ok (.enter fn args) w)(hlen:l.length<=1000000)(hR:d2p fEx q W (.slice a l.length cap) l)
  (hf:∀y∈l,∀(W':World) (s:Value),Bl W W'->bG q W' s (Form.ex fEx y).args->fb fn (#[.agg (fEx.cells y s).toArray]++caps) W' fun e w'=>e= .returned (.bool (p y))/\Bl W' w'):
  fb 140 #[.slice a l.length cap,.func (.func fn) #[] caps] W fun e w'=>e= .returned (.bool (l.any p))/\Bl W w':=by
 have H1:=aB (e5k caps hen hlen hR hf);generalize l.any p=R at *;generalize l.length=m at *;clear hR hf hlen hen;go_enter func140,ntmps140;go_wp2_with fail;refine H1.o.mono ?_;rintro e w1 ⟨⟨z,rfl,hz⟩,hb1⟩;have HZ:=aB hz;clear hz;go_wp2;go_ret;exact⟨by rw[<-HZ.o];rfl,hb1⟩
theorem e0f{W:World}{y:Ex}{s:Value}{v:Bool}{g bx:Nat}(heng:∀(args:Array Value) (w:World),(callFunc g args).run prog w= .ok (.enter g args) w)(hx:W.cell? ⟨bx,0,none⟩=some (.func (.func g) #[] #[])){n:List Ex}{q:Nat->Prop}(hs:bG q W s n)
  (hg:∀W',Bl W W'->fb g #[.agg (fEx.cells y s).toArray] W' fun e w'=>e= .returned (.bool v)/\Bl W' w'):
  fb 152 #[.agg (fEx.cells y s).toArray,.pointer (some ⟨bx,0,none⟩)] W fun e w'=>e= .returned (.bool (!v))/\Bl W w':=by
 obtain⟨ad,ca,rfl⟩:=hs.shape;obtain⟨m,hm⟩:∃m,n.length=m:=⟨_,rfl⟩
 rw[hm] at hg⊢;clear hs hm;obtain⟨zk,⟨z1,z2,z3⟩,zt,zn,zo,za⟩:=y;have HG:=aB hg;have hbx:bx<W.heap.size:=eg;clear hg;show fb 152 #[.agg #[.int .i64 zk,.int .i64 z1,.int .i64 z2,S z3,S zt,S zn,.int .i64 zo,.slice ad m ca],.pointer (some ⟨bx,0,none⟩)] W _;go_enter func152,ntmps152;go_wp2_with fail;refine(HG.o _ ?_).mono ?_
 ·first |exact Bl.refl _|exact(Bl.refl _).alloc _|exact((Bl.refl _).alloc _).alloc _
 rintro e w1 ⟨rfl,hb1⟩;go_wp2;go_ret;exact⟨rfl,by first |exact hb1|exact((Bl.refl _).alloc _).call hb1|exact(((Bl.refl _).alloc _).alloc _).call hb1⟩
theorem d7x(args:Array Value)(w:World):(callFunc 152 args).run prog w= .ok (.enter 152 args) w:=by
 simp[go_sem]
theorem e2d{W:World}{a:Option Addr}{cap:Nat}{l:List Ex}{p:Ex->Bool}{q:Nat->Prop}{g:FuncId}(heng:∀(args:Array Value) (w:World),(callFunc g args).run prog w= .ok (.enter g args) w)(hlen:l.length<=1000000)(hR:d2p fEx q W (.slice a l.length cap) l)(most:Int)
  (hg:∀y∈l,∀(W':World) (s:Value),Bl W W'->bG q W' s (Form.ex fEx y).args->fb g #[.agg (fEx.cells y s).toArray] W' fun e w'=>e= .returned (.bool (p y))/\Bl W' w'):
  fb 87 #[.slice a l.length cap,.int .i64 most,.func (.func g) #[] #[]] W fun e w'=>e= .returned (.bool (decide ((l.length:Int)<=most)&&l.all p))/\Bl W w':=by
 have HB0:=aB ((Bl.refl W).alloc (.cells #[.func (.func g) #[] #[]] 124));have hb0:=cK (aN W (.cells #[.func (.func g) #[] #[]] 124));have H1:=aB (e5o (W:=W.alloc (.cells #[.func (.func g) #[] #[]] 124)) #[.pointer (some ⟨W.heap.size,0,none⟩)] d7x hlen (hR.bl HB0.o) (p:=fun y=> !p y)
  fun y hy W' s hb hr=>e0f heng (hb.cell hb0) hr fun W2 hb2=>hg y hy W2 s ((HB0.o.call hb).call hb2) (hr.bl hb2))
 by_cases hm:(l.length:Int)<=most
 case neg=>
  rw[decide_eq_false hm,pK];generalize l.length=m at *;clear H1 hR hg hlen hb0;go_enter func87,ntmps87;go_wp2;go_ret;exact⟨rfl,HB0.o⟩
 rw[decide_eq_true hm,rC,<-d9b];generalize (l.any fun y=> !p y)=R at *;generalize l.length=m at *;clear hR hg hlen hb0;go_enter func87,ntmps87;go_wp2_with fail;refine H1.o.mono ?_;rintro e w1 ⟨rfl,hb1⟩;go_wp2;go_ret;exact⟨rfl,HB0.o.call hb1⟩
theorem e5h{W:World}{a:Option Addr}{cap:Nat}{l:List Od}{p:Od->Bool}{q:Nat->Prop}{fn:FuncId}(caps:Array Value)(hen:∀(args:Array Value) (w:World),(callFunc fn args).run prog w= .ok (.enter fn args) w)(hlen:l.length<=1000000)(hR:d2p fOd q W (.slice a l.length cap) l)
  (hf:∀y∈l,∀(W':World) (s:Value),Bl W W'->bG q W' s (Form.ex fOd y).args->fb fn (#[.agg (fOd.cells y s).toArray]++caps) W' fun e w'=>e= .returned (.bool (p y))/\Bl W' w'):
  fb 142 #[.slice a l.length cap,.func (.func fn) #[] caps] W fun e w'=>(∃z:Int,e= .returned (.int .i64 z)/\decide (0<=z)=l.any p)/\Bl W w':=by
 obtain⟨a',cap',e,hc⟩:=hR.shape;obtain⟨rfl,rfl⟩:a=a'/\cap=cap':=cG;obtain⟨R,HRR⟩:∃R,Hid (l.any p=R):=⟨_,rfl⟩
 rw[HRR.o];have HC:=aB hc;have HF:=aB hf;clear hR hc hf e;go_enter func142,ntmps142;go_wp2_with fail;go_loopw [8] (fun i wr=>∃j:Nat,j<=l.length/\i= .int .i64 (j:Int)/\Hid (R=(l.drop j).any p)/\Hid (Bl W wr)) (fun i _=>l.length-(intOf i).toNat)
 case atStart=>exact⟨0,dL _,rfl,HRR.o.symm,Bl.refl W⟩
 case round=>
  obtain⟨j,hj,rfl,HD,HB⟩:=hrel;by_cases hlt:j<l.length
  ·obtain⟨b,off,s,rfl,-,hbl,hcs,hr⟩:=HC.o j hlt;have HDj:=aB (HD.o.trans (d6z hlt));have HM:=aB (dS hlt);have HR:=aB (hr.bl HB.o)
   replace hcs:=hcs.keep (HB.o.block b hbl)
   have hlt':(j:Int)<(l.length:Int):=aE;obtain⟨ad,ca,rfl⟩:=hr.shape;clear hr;generalize l[j]=y at *;obtain⟨⟨zk,⟨z1,z2,z3⟩,zt,zn,zo,za⟩,dn⟩:=y
   replace hcs:d2k wr b (off+j * 9) [.int .i64 zk,.int .i64 z1,.int .i64 z2,S z3,S zt,S zn,.int .i64 zo,.slice ad za.length ca,.bool dn]:=hcs
   have e0:wr.cell? ⟨b,off+j * 9,none⟩=some (.int .i64 zk):=hcs 0 _ rfl;have e1:wr.cell? ⟨b,off+j * 9+1,none⟩=some (.int .i64 z1):=hcs 1 _ rfl;have e2:wr.cell? ⟨b,off+j * 9+2,none⟩=some (.int .i64 z2):=hcs 2 _ rfl;have e3:wr.cell? ⟨b,off+j * 9+3,none⟩=some (S z3):=hcs 3 _ rfl;have e4:wr.cell? ⟨b,off+j * 9+4,none⟩=some (S zt):=hcs 4 _ rfl;have e5:wr.cell? ⟨b,off+j * 9+5,none⟩=some (S zn):=hcs 5 _ rfl;have e6:wr.cell? ⟨b,off+j * 9+6,none⟩=some (.int .i64 zo):=hcs 6 _ rfl;have e7:wr.cell? ⟨b,off+j * 9+7,none⟩=some (.slice ad za.length ca):=hcs 7 _ rfl;have e8:wr.cell? ⟨b,off+j * 9+8,none⟩=some (.bool dn):=hcs 8 _ rfl;clear hcs;go_wp2_with fail;refine(HF.o ⟨(.mk zk (z1,z2,z3) zt zn zo za),dn⟩ HM.o _ (.slice ad za.length ca) HB.o HR.o).mono ?_;rintro e w1 ⟨rfl,hb1⟩;have HB1:=aB (HB.o.call hb1);clear hb1 e0 e1 e2 e3 e4 e5 e6 e7 e8;cases hs:p ⟨(.mk zk (z1,z2,z3) zt zn zo za),dn⟩
   ·have HN:=aB (show R=(l.drop (j+1)).any p from by rw[HDj.o,hs,Bool.false_or]);clear hs;go_wp2;go_roundw
    case rel=>exact⟨j+1,by omega,by go_num,HN.o,HB1.o⟩
    case measure=>simp[intOf];omega
   ·have HN:=aB (show decide (0<=(j:Int))=R from by rw[HDj.o,hs,Bool.true_or];simp);clear hs;go_wp2;go_ret;exact⟨⟨_,rfl,HN.o⟩,HB1.o⟩
  ·obtain rfl:j=l.length:=by omega
   have HN:=aB (show decide (0<=(-1:Int))=R from by rw[HD.o,dO];rfl);go_wp2;go_ret;exact⟨⟨_,rfl,HN.o⟩,HB.o⟩
theorem e5l{W:World}{a:Option Addr}{cap:Nat}{l:List Od}{p:Od->Bool}{q:Nat->Prop}{fn:FuncId}(caps:Array Value)(hen:∀(args:Array Value) (w:World),(callFunc fn args).run prog w= .ok (.enter fn args) w)(hlen:l.length<=1000000)(hR:d2p fOd q W (.slice a l.length cap) l)
  (hf:∀y∈l,∀(W':World) (s:Value),Bl W W'->bG q W' s (Form.ex fOd y).args->fb fn (#[.agg (fOd.cells y s).toArray]++caps) W' fun e w'=>e= .returned (.bool (p y))/\Bl W' w'):
  fb 72 #[.slice a l.length cap,.func (.func fn) #[] caps] W fun e w'=>e= .returned (.bool (l.any p))/\Bl W w':=by
 have H1:=aB (e5h caps hen hlen hR hf);generalize l.any p=R at *;generalize l.length=m at *;clear hR hf hlen hen;go_enter func72,ntmps72;go_wp2_with fail;refine H1.o.mono ?_;rintro e w1 ⟨⟨z,rfl,hz⟩,hb1⟩;have HZ:=aB hz;clear hz;go_wp2;go_ret;exact⟨by rw[<-HZ.o];rfl,hb1⟩
theorem e0c{W:World}{y:Od}{s:Value}{v:Bool}{g bx:Nat}(heng:∀(args:Array Value) (w:World),(callFunc g args).run prog w= .ok (.enter g args) w)(hx:W.cell? ⟨bx,0,none⟩=some (.func (.func g) #[] #[])){n:List Ex}{q:Nat->Prop}(hs:bG q W s n)
  (hg:∀W',Bl W W'->fb g #[.agg (fOd.cells y s).toArray] W' fun e w'=>e= .returned (.bool v)/\Bl W' w'):
  fb 153 #[.agg (fOd.cells y s).toArray,.pointer (some ⟨bx,0,none⟩)] W fun e w'=>e= .returned (.bool (!v))/\Bl W w':=by
 obtain⟨ad,ca,rfl⟩:=hs.shape;obtain⟨m,hm⟩:∃m,n.length=m:=⟨_,rfl⟩
 rw[hm] at hg⊢;clear hs hm;obtain⟨⟨zk,⟨z1,z2,z3⟩,zt,zn,zo,za⟩,dn⟩:=y;have HG:=aB hg;have hbx:bx<W.heap.size:=eg;clear hg;show fb 153 #[.agg #[.int .i64 zk,.int .i64 z1,.int .i64 z2,S z3,S zt,S zn,.int .i64 zo,.slice ad m ca,.bool dn],.pointer (some ⟨bx,0,none⟩)] W _;go_enter func153,ntmps153;go_wp2_with fail;refine(HG.o _ ?_).mono ?_
 ·first |exact Bl.refl _|exact(Bl.refl _).alloc _|exact((Bl.refl _).alloc _).alloc _
 rintro e w1 ⟨rfl,hb1⟩;go_wp2;go_ret;exact⟨rfl,by first |exact hb1|exact((Bl.refl _).alloc _).call hb1|exact(((Bl.refl _).alloc _).alloc _).call hb1⟩
theorem d7u(args:Array Value)(w:World):(callFunc 153 args).run prog w= .ok (.enter 153 args) w:=by
 simp[go_sem]
theorem e1z{W:World}{a:Option Addr}{cap:Nat}{l:List Od}{p:Od->Bool}{q:Nat->Prop}{g:FuncId}(heng:∀(args:Array Value) (w:World),(callFunc g args).run prog w= .ok (.enter g args) w)(hlen:l.length<=1000000)(hR:d2p fOd q W (.slice a l.length cap) l)(most:Int)
  (hg:∀y∈l,∀(W':World) (s:Value),Bl W W'->bG q W' s (Form.ex fOd y).args->fb g #[.agg (fOd.cells y s).toArray] W' fun e w'=>e= .returned (.bool (p y))/\Bl W' w'):
  fb 88 #[.slice a l.length cap,.int .i64 most,.func (.func g) #[] #[]] W fun e w'=>e= .returned (.bool (decide ((l.length:Int)<=most)&&l.all p))/\Bl W w':=by
 have HB0:=aB ((Bl.refl W).alloc (.cells #[.func (.func g) #[] #[]] 128));have hb0:=cK (aN W (.cells #[.func (.func g) #[] #[]] 128));have H1:=aB (e5l (W:=W.alloc (.cells #[.func (.func g) #[] #[]] 128)) #[.pointer (some ⟨W.heap.size,0,none⟩)] d7u hlen (hR.bl HB0.o) (p:=fun y=> !p y)
  fun y hy W' s hb hr=>e0c heng (hb.cell hb0) hr fun W2 hb2=>hg y hy W2 s ((HB0.o.call hb).call hb2) (hr.bl hb2))
 by_cases hm:(l.length:Int)<=most
 case neg=>
  rw[decide_eq_false hm,pK];generalize l.length=m at *;clear H1 hR hg hlen hb0;go_enter func88,ntmps88;go_wp2;go_ret;exact⟨rfl,HB0.o⟩
 rw[decide_eq_true hm,rC,<-d9b];generalize (l.any fun y=> !p y)=R at *;generalize l.length=m at *;clear hR hg hlen hb0;go_enter func88,ntmps88;go_wp2_with fail;refine H1.o.mono ?_;rintro e w1 ⟨rfl,hb1⟩;go_wp2;go_ret;exact⟨rfl,HB0.o.call hb1⟩
end
section
structure e0m(x:Ex):Prop where
 parts:fC x<=1000000
 lens:Lens x
 fits:Fits x
 text:eH x=true->(eY x).length<=100000000
theorem e2n(s:List UInt8):eH (.mk 2 (0,0,[]) [] s 0 [])=mO s:=by
 rw[a7f];simp[dV]
abbrev zEV:Value:=EV 0 (0,0,[]) [] [] 0 (.slice none 0 0)
theorem e1c(W:World):eO W zeroE zEV:=⟨_,rfl,gU.nil _ none 0⟩
theorem d8d(s:List UInt8)(hs:s.length<=9223372036854775807)(W:World)(hG:nD W):fb 147 #[S s] W fun e w'=>e= .returned (.bool (mO s))/\Bl W w':=by
 have HE:Hid (∀w,Bl W w->fb 149 #[EV 2 (0,0,[]) [] s 0 (.slice none 0 0)] w fun e w'=>e= .returned (.int .i64 (if mO s=true then 0 else 2))/\Bl w w'):=fun w hb=>by
  have h:=yO 1 (.mk 2 (0,0,[]) [] s 0 []) (by simp[fC,fF]) af (.mk _ _ _ _ _ _ af hs (fun y h=>by cases h)) w _ ⟨_,rfl,gU.nil _ none 0⟩ (hG.bl hb);unfold ckN at h;rw[e2n] at h;exact h
 generalize mO s=r at *;clear hG hs;go_enter func147,ntmps147;go_wp2_with fail;refine(HE.o _ ?_).mono ?_
 ·first |exact Bl.refl _|exact(Bl.refl _).alloc _
 rintro e w1 ⟨rfl,hb⟩;cases r
 all_goals
  go_wp2;go_ret;exact⟨rfl,by first |exact hb|exact((Bl.refl _).alloc _).call hb⟩
theorem d5f(s:List UInt8)(hs:s.length<=9223372036854775807)(W:World)(hG:nD W):fb 148 #[S s] W fun e w'=>e= .returned (.bool (d3c s))/\Bl W w':=by
 by_cases h0:s=[]
 ·subst h0;go_enter func148,ntmps148;go_wp2;go_ret;exact⟨rfl,Bl.refl _⟩
 have HG:=aB hG;have hb0:(s==[])=false:=ay;have HE:Hid (d3c s=mO s):=(by show _=_;unfold d3c;rw[hb0,Bool.false_or]);rw[HE.o];clear hG h0;go_enter func148,ntmps148;go_wp2_with fail;refine(d8d s hs _ HG.o).mono ?_;rintro e w1 ⟨rfl,hb⟩;go_wp2;go_ret;exact⟨rfl,hb⟩
theorem d5d{x:Ex}(hp:fC x<=1000000)(W:World)(v:Value)(hv:eO W x v):fb 83 #[v] W fun e w'=>e= .returned (.bool (d3i x))/\Bl W w':=by
 have HE:Hid (∀w,Bl W w->fb 42 #[v,zEV] w fun e w'=>e= .returned (.bool (d3i x))/\Bl w w'):=fun w hb=>b7d _ x zeroE (aH _) hp w v _ (hv.bl hb) (e1c w);obtain⟨sv,rfl,hR⟩:=hv;obtain⟨a,cap,rfl,-⟩:=hR.shape;generalize d3i x=r at *;clear hR hp;obtain⟨k,⟨v1,v2,v3⟩,t,n,o,args⟩:=x;simp only[Ex.k,Ex.v,Ex.t,Ex.n,Ex.o,Ex.args] at *;go_enter func83,ntmps83;go_wp2_with fail;refine(HE.o _ ?_).mono ?_
 ·first |exact Bl.refl _|exact(Bl.refl _).alloc _|exact((Bl.refl _).alloc _).alloc _
 rintro e w1 ⟨rfl,hb⟩;go_wp2;go_ret;exact⟨rfl,by first |exact hb|exact((Bl.refl _).alloc _).call hb|exact(((Bl.refl _).alloc _).alloc _).call hb⟩
theorem d3u{x:Ex}(hp:e0m x)(W:World)(v:Value)(hv:eO W x v)(hG:nD W):fb 84 #[v] W fun e w'=>e= .returned (.bool (eH x))/\Bl W w':=by
 have HE:Hid (∀w,Bl W w->fb 149 #[v] w fun e w'=>e= .returned (.int .i64 (if eH x=true then 0 else 2))/\Bl w w'):=fun w hb=>yO _ x (aH _) hp.parts hp.lens w v (hv.bl hb) (hG.bl hb);obtain⟨sv,rfl,hR⟩:=hv;obtain⟨a,cap,rfl,-⟩:=hR.shape;generalize eH x=r at *;clear hR hp hG;obtain⟨k,⟨v1,v2,v3⟩,t,n,o,args⟩:=x;simp only[Ex.k,Ex.v,Ex.t,Ex.n,Ex.o,Ex.args] at *;go_enter func84,ntmps84;go_wp2_with fail;refine(HE.o _ ?_).mono ?_
 ·first |exact Bl.refl _|exact(Bl.refl _).alloc _
 rintro e w1 ⟨rfl,hb⟩;cases r
 all_goals
  go_wp2;go_ret;exact⟨rfl,by first |exact hb|exact((Bl.refl _).alloc _).call hb⟩
theorem d7h{x:Ex}(hp:e0m x)(hC:eH x=true)(W:World)(v:Value)(hv:eO W x v)(hG:nD W):fb 100 #[v] W fun e w'=>e= .returned (S (eY x))/\Bl W w':=by
 have HE:Hid (∀w,Bl W w->fb 155 #[v] w fun e w'=>e= .returned (.tuple #[S (eY x),.int .i64 0])/\Bl w w'):=fun w hb=>a6k hp.parts hC hp.fits hp.lens (hp.text hC) w v (hv.bl hb) (hG.bl hb);obtain⟨sv,rfl,hR⟩:=hv;obtain⟨a,cap,rfl,-⟩:=hR.shape;generalize eY x=r at *;clear hR hp hG hC;obtain⟨k,⟨v1,v2,v3⟩,t,n,o,args⟩:=x;simp only[Ex.k,Ex.v,Ex.t,Ex.n,Ex.o,Ex.args] at *;go_enter func100,ntmps100;go_wp2_with fail;refine(HE.o _ ?_).mono ?_
 ·first |exact Bl.refl _|exact(Bl.refl _).alloc _
 rintro e w1 ⟨rfl,hb⟩;go_wp2;go_ret;exact⟨rfl,by first |exact hb|exact((Bl.refl _).alloc _).call hb⟩
abbrev d4d(s:List UInt8):Prop:=s.length<=9223372036854775807
structure e7f(i:It):Prop where
 x:e0m i.x
 t:d4d i.t
 al:d4d i.al
structure e7e(s:So):Prop where
 t:d4d s.t
 al:d4d s.al
theorem d6r{s:So}(hs:e7e s)(W:World)(hG:nD W):fb 82 #[.agg #[S s.t,S s.al]] W fun e w'=>e= .returned (.bool (d4c s))/\Bl W w':=by
 obtain⟨t,al⟩:=s;have HG:=aB hG;have H1:Hid (∀w,Bl W w->fb 147 #[S t] w fun e w'=>e= .returned (.bool (mO t))/\Bl w w'):=fun w hb=>d8d t hs.t w (HG.o.bl hb);have H2:Hid (∀w,Bl W w->fb 148 #[S al] w fun e w'=>e= .returned (.bool (d3c al))/\Bl w w'):=fun w hb=>d5f al hs.al w (HG.o.bl hb);show fb 82 #[.agg #[S t,S al]] W fun e w'=>e= .returned (.bool (mO t&&d3c al))/\Bl W w';clear hG hs;have hX0:=aN W (.cells #[S t,S al] 24);have HB0:=aB ((Bl.refl W).alloc (.cells #[S t,S al] 24));generalize d3c al=r2 at *;generalize mO t=r1 at *;cases r1
 ·clear hX0 H2;go_enter func82,ntmps82;go_wp2_with fail;refine(H1.o _ HB0.o).mono ?_;rintro e w1 ⟨rfl,hb⟩;go_wp2;go_ret;exact⟨rfl,HB0.o.call hb⟩
 ·go_enter func82,ntmps82;go_wp2_with fail;refine(H1.o _ HB0.o).mono ?_;rintro e w1 ⟨rfl,hb⟩;have HB1:=aB (HB0.o.call hb);obtain⟨s0,s1,-,-,-⟩:=aU ((hb.block _ aa).trans hX0);clear hb hX0;go_wp2_with fail;refine(H2.o _ HB1.o).mono ?_;rintro e w2 ⟨rfl,hb⟩;go_wp2;go_ret;exact⟨rfl,HB1.o.call hb⟩
structure e1a(q:Qu):Prop where
 items:∀i∈q.items,e7f i
 frm:e7e q.frm
 joins:∀j∈q.joins,e7e j.s/\e0m j.on
 wher:e0m q.wher
 group:∀x∈q.group,e0m x
 having:e0m q.having
 orders:∀o∈q.orders,e0m o.x
 li:q.items.length<=1000000
 lj:q.joins.length<=1000000
 lg:q.group.length<=1000000
 lo:q.orders.length<=1000000
 text:d3e q=true->(d8n q).length<=100000000
 lim: -9223372036854775808<=q.limit/\q.limit<=9223372036854775807
abbrev e6e(st:Bool)(t:List UInt8)(k v1 v2:Int)(v3 xt xn:List UInt8)(o:Int)(a:Value)(al:List UInt8):List Value:=[.bool st,S t,.int .i64 k,.int .i64 v1,.int .i64 v2,S v3,S xt,S xn,.int .i64 o,a,S al]
theorem d3y{w:World}{b:Nat}{st:Bool}{t:List UInt8}{k v1 v2:Int}{v3 xt xn:List UInt8}{o:Int}{a:Value}{al:List UInt8}{T:TypeId}(h:w.heap[b]?=some (.cells (e6e st t k v1 v2 v3 xt xn o a al).toArray T (0,0))):
  w.cell? ⟨b,0,none⟩=some (.bool st)/\w.cell? ⟨b,1,none⟩=some (S t)/\w.cell? ⟨b,2,none⟩=some (.int .i64 k)/\w.cell? ⟨b,3,none⟩=some (.int .i64 v1)/\w.cell? ⟨b,4,none⟩=some (.int .i64 v2)/\w.cell? ⟨b,5,none⟩=some (S v3)/\
  w.cell? ⟨b,6,none⟩=some (S xt)/\w.cell? ⟨b,7,none⟩=some (S xn)/\w.cell? ⟨b,8,none⟩=some (.int .i64 o)/\w.cell? ⟨b,9,none⟩=some a/\w.cell? ⟨b,10,none⟩=some (S al):=
 ⟨(aG h 0).trans rfl,(aG h 1).trans rfl,(aG h 2).trans rfl,(aG h 3).trans rfl,(aG h 4).trans rfl,(aG h 5).trans rfl,(aG h 6).trans rfl,(aG h 7).trans rfl,(aG h 8).trans rfl,(aG h 9).trans rfl,(aG h 10).trans rfl⟩
theorem e1y{i:It}(hi:e7f i){p:Nat->Prop}{W:World}{s:Value}(hr:bG p W s i.x.args)(hG:nD W):fb 135 #[.agg (fIt.cells i s).toArray] W fun e w'=>e= .returned (.bool (d3r i))/\Bl W w':=by
 obtain⟨a,c,rfl⟩:=hr.shape;obtain⟨st,t,x,al⟩:=i;have hR:gU W (.slice a x.args.length c) x.args:=hr.reads;have HG:=aB hG;have H1:Hid (∀w,Bl W w->fb 83 #[EV x.k x.v x.t x.n x.o (.slice a x.args.length c)] w fun e w'=>e= .returned (.bool (d3i x))/\Bl w w'):=fun w hb=>d5d hi.x.parts w _ ⟨_,rfl,hR.bl hb⟩;have H2:Hid (∀w,Bl W w->fb 84 #[EV x.k x.v x.t x.n x.o (.slice a x.args.length c)] w fun e w'=>e= .returned (.bool (eH x))/\Bl w w'):=fun w hb=>d3u hi.x w _ ⟨_,rfl,hR.bl hb⟩ (HG.o.bl hb);have H3:Hid (∀w,Bl W w->fb 148 #[S t] w fun e w'=>e= .returned (.bool (d3c t))/\Bl w w'):=fun w hb=>d5f t hi.t w (HG.o.bl hb);have H4:Hid (∀w,Bl W w->fb 148 #[S al] w fun e w'=>e= .returned (.bool (d3c al))/\Bl w w'):=fun w hb=>d5f al hi.al w (HG.o.bl hb);have HE:Hid (d3r ⟨st,t,x,al⟩=if st=true then d3i x&&al==[]&&d3c t else t==[]&&eH x&&d3c al):=rfl;rw[HE.o];clear hr hR hG hi HE;generalize d3i x=r1 at *;generalize eH x=r2 at *;generalize d3c t=r3 at *;generalize d3c al=r4 at *;obtain⟨k,⟨v1,v2,v3⟩,xt,xn,o,args⟩:=x;simp only[Ex.k,Ex.v,Ex.t,Ex.n,Ex.o,Ex.args] at *;generalize args.length=m at *;show fb 135 #[.agg (e6e st t k v1 v2 v3 xt xn o (.slice a m c) al).toArray] W _;have HX:=aB (aN W (.cells (e6e st t k v1 v2 v3 xt xn o (.slice a m c) al).toArray 91));have HB1:=aB ((Bl.refl W).alloc (.cells (e6e st t k v1 v2 v3 xt xn o (.slice a m c) al).toArray 91));obtain⟨c0,c1,c2,c3,c4,c5,c6,c7,c8,c9,c10⟩:=d3y HX.o;cases st
 ·by_cases ht:t=[]
  case neg=>
   have hb:(t==[])=false:=an;rw[if_neg af,hb,pK,pK];clear ht;go_enter func135,ntmps135;go_wp2;go_ret;exact⟨rfl,HB1.o⟩
  subst ht;cases r2
  ·clear H1 H3 H4;go_enter func135,ntmps135;go_wp2_with fail;refine(H2.o _ HB1.o).mono ?_;rintro e w9 ⟨rfl,hb⟩
   replace HB1:=aB (HB1.o.call hb)
   replace HX:=aB ((hb.block _ (aC.1 HX.o).1).trans HX.o)
   clear hb c0 c1 c2 c3 c4 c5 c6 c7 c8 c9 c10;obtain⟨c0,c1,c2,c3,c4,c5,c6,c7,c8,c9,c10⟩:=d3y HX.o;go_wp2;go_ret;exact⟨rfl,HB1.o⟩
  ·clear H1 H3;go_enter func135,ntmps135;go_wp2_with fail;refine(H2.o _ HB1.o).mono ?_;rintro e w9 ⟨rfl,hb⟩
   replace HB1:=aB (HB1.o.call hb)
   replace HX:=aB ((hb.block _ (aC.1 HX.o).1).trans HX.o)
   clear hb c0 c1 c2 c3 c4 c5 c6 c7 c8 c9 c10;obtain⟨c0,c1,c2,c3,c4,c5,c6,c7,c8,c9,c10⟩:=d3y HX.o;go_wp2_with fail;refine(H4.o _ HB1.o).mono ?_;rintro e w9 ⟨rfl,hb⟩
   replace HB1:=aB (HB1.o.call hb)
   replace HX:=aB ((hb.block _ (aC.1 HX.o).1).trans HX.o)
   clear hb c0 c1 c2 c3 c4 c5 c6 c7 c8 c9 c10;obtain⟨c0,c1,c2,c3,c4,c5,c6,c7,c8,c9,c10⟩:=d3y HX.o;go_wp2;go_ret;exact⟨rfl,HB1.o⟩
 ·cases r1
  ·clear H2 H3 H4;go_enter func135,ntmps135;go_wp2_with fail;refine(H1.o _ HB1.o).mono ?_;rintro e w9 ⟨rfl,hb⟩
   replace HB1:=aB (HB1.o.call hb)
   replace HX:=aB ((hb.block _ (aC.1 HX.o).1).trans HX.o)
   clear hb c0 c1 c2 c3 c4 c5 c6 c7 c8 c9 c10;obtain⟨c0,c1,c2,c3,c4,c5,c6,c7,c8,c9,c10⟩:=d3y HX.o;go_wp2;go_ret;exact⟨rfl,HB1.o⟩
  ·by_cases ht:al=[]
   case neg=>
    have hb:(al==[])=false:=an;rw[if_pos rfl,hb,rC,pK];clear ht H2 H3 H4;go_enter func135,ntmps135;go_wp2_with fail;refine(H1.o _ HB1.o).mono ?_;rintro e w9 ⟨rfl,hb⟩
    replace HB1:=aB (HB1.o.call hb)
    replace HX:=aB ((hb.block _ (aC.1 HX.o).1).trans HX.o)
    clear hb c0 c1 c2 c3 c4 c5 c6 c7 c8 c9 c10;obtain⟨c0,c1,c2,c3,c4,c5,c6,c7,c8,c9,c10⟩:=d3y HX.o;go_wp2;go_ret;exact⟨rfl,HB1.o⟩
   subst ht;clear H2 H4;go_enter func135,ntmps135;go_wp2_with fail;refine(H1.o _ HB1.o).mono ?_;rintro e w9 ⟨rfl,hb⟩
   replace HB1:=aB (HB1.o.call hb)
   replace HX:=aB ((hb.block _ (aC.1 HX.o).1).trans HX.o)
   clear hb c0 c1 c2 c3 c4 c5 c6 c7 c8 c9 c10;obtain⟨c0,c1,c2,c3,c4,c5,c6,c7,c8,c9,c10⟩:=d3y HX.o;go_wp2_with fail;refine(H3.o _ HB1.o).mono ?_;rintro e w9 ⟨rfl,hb⟩
   replace HB1:=aB (HB1.o.call hb)
   replace HX:=aB ((hb.block _ (aC.1 HX.o).1).trans HX.o)
   clear hb c0 c1 c2 c3 c4 c5 c6 c7 c8 c9 c10;obtain⟨c0,c1,c2,c3,c4,c5,c6,c7,c8,c9,c10⟩:=d3y HX.o;go_wp2;go_ret;exact⟨rfl,HB1.o⟩
abbrev joL(jt jal:List UInt8)(xk x1 x2:Int)(x3 xt xn:List UInt8)(xo:Int)(s:Value):List Value:=[S jt,S jal,.int .i64 xk,.int .i64 x1,.int .i64 x2,S x3,S xt,S xn,.int .i64 xo,s]
theorem d8z(args:Array Value)(w:World):(callFunc 135 args).run prog w= .ok (.enter 135 args) w:=by simp[go_sem]
theorem d8y(args:Array Value)(w:World):(callFunc 84 args).run prog w= .ok (.enter 84 args) w:=by simp[go_sem]
theorem d7z(args:Array Value)(w:World):(callFunc 86 args).run prog w= .ok (.enter 86 args) w:=by simp[go_sem]
theorem d7y(args:Array Value)(w:World):(callFunc 89 args).run prog w= .ok (.enter 89 args) w:=by simp[go_sem]
theorem e1x{l:List It}(hl:l.length<=1000000)(hi:∀i∈l,e7f i){p:Nat->Prop}{W:World}{v:Value}(hr:d2p fIt p W v l)(hG:nD W):fb 65 #[v] W fun e w'=>e= .returned (.bool (d4l l))/\Bl W w':=by
 obtain⟨a,c,rfl,-⟩:=hr.shape;have H1:=aB (e2c (g:=135) d8z hl hr 32 (p:=d3r) fun y hy W' s hb hs=>e1y (hi y hy) hs (hG.bl hb));have HE:Hid (d4l l=(decide (0<l.length)&&(decide ((l.length:Int)<=32)&&l.all d3r))):=by
  show _=_;unfold d4l;rw[Bool.and_assoc]
  congr 2
  exact decide_eq_decide.2 aE
 rw[HE.o];clear hr hi hG HE;generalize (decide ((l.length:Int)<=32)&&l.all d3r)=r at *;by_cases h0:0<l.length
 ·rw[decide_eq_true h0,rC];have h0':(0:Int)<(l.length:Int):=aE;generalize l.length=m at *;clear hl;go_enter func65,ntmps65;go_wp2_with fail;refine H1.o.mono ?_;rintro e w1 ⟨rfl,hb⟩;go_wp2;go_ret;exact⟨rfl,hb⟩
 ·rw[decide_eq_false h0,pK];have h0':¬(0:Int)<(l.length:Int):=aE;generalize l.length=m at *;clear hl H1;go_enter func65,ntmps65;go_wp2;go_ret;exact⟨rfl,Bl.refl _⟩
theorem e0j{j:Jo}(hs:e7e j.s)(hx:e0m j.on){p:Nat->Prop}{W:World}{s:Value}(hr:bG p W s j.on.args)(hG:nD W):fb 86 #[.agg (fJo.cells j s).toArray] W fun e w'=>e= .returned (.bool (d4c j.s&&eH j.on))/\Bl W w':=by
 obtain⟨a,c,rfl⟩:=hr.shape;obtain⟨⟨t,al⟩,x⟩:=j;have hR:gU W (.slice a x.args.length c) x.args:=hr.reads;have HG:=aB hG;have H1:Hid (∀w,Bl W w->fb 82 #[.agg #[S t,S al]] w fun e w'=>e= .returned (.bool (d4c ⟨t,al⟩))/\Bl w w'):=fun w hb=>d6r hs w (HG.o.bl hb);have H2:Hid (∀w,Bl W w->fb 84 #[EV x.k x.v x.t x.n x.o (.slice a x.args.length c)] w fun e w'=>e= .returned (.bool (eH x))/\Bl w w'):=fun w hb=>d3u hx w _ ⟨_,rfl,hR.bl hb⟩ (HG.o.bl hb);show fb 86 #[.agg (fJo.cells ⟨⟨t,al⟩,x⟩ (.slice a x.args.length c)).toArray] W fun e w'=>e= .returned (.bool (d4c ⟨t,al⟩&&eH x))/\Bl W w';clear hr hR hG hs hx;generalize d4c ⟨t,al⟩=r1 at *;generalize eH x=r2 at *;obtain⟨k,⟨v1,v2,v3⟩,xt,xn,o,args⟩:=x;simp only[Ex.k,Ex.v,Ex.t,Ex.n,Ex.o,Ex.args] at *;generalize args.length=m at *;show fb 86 #[.agg (joL t al k v1 v2 v3 xt xn o (.slice a m c)).toArray] W _;have HX:=aB (aN W (.cells (joL t al k v1 v2 v3 xt xn o (.slice a m c)).toArray 78));have HB1:=aB ((Bl.refl W).alloc (.cells (joL t al k v1 v2 v3 xt xn o (.slice a m c)).toArray 78));cases r1
 ·clear H2;go_enter func86,ntmps86;go_wp2_with fail;refine(H1.o _ HB1.o).mono ?_;rintro e w1 ⟨rfl,hb⟩;go_wp2;go_ret;exact⟨rfl,HB1.o.call hb⟩
 ·go_enter func86,ntmps86;go_wp2_with fail;refine(H1.o _ HB1.o).mono ?_;rintro e w1 ⟨rfl,hb⟩;have HX1:=(hb.block _ aa).trans HX.o;have HB2:=aB (HB1.o.call hb);have c2:=(aG HX1 2).trans rfl;have c3:=(aG HX1 3).trans rfl;have c4:=(aG HX1 4).trans rfl;have c5:=(aG HX1 5).trans rfl;have c6:=(aG HX1 6).trans rfl;have c7:=(aG HX1 7).trans rfl;have c8:=(aG HX1 8).trans rfl;have c9:=(aG HX1 9).trans rfl;clear hb HX1;go_wp2_with fail;refine(H2.o _ HB2.o).mono ?_;rintro e w2 ⟨rfl,hb⟩;go_wp2;go_ret;exact⟨rfl,HB2.o.call hb⟩
theorem e0i{j:Od}(hx:e0m j.x){p:Nat->Prop}{W:World}{s:Value}(hr:bG p W s j.x.args)(hG:nD W):fb 89 #[.agg (fOd.cells j s).toArray] W fun e w'=>e= .returned (.bool (eH j.x))/\Bl W w':=by
 obtain⟨a,c,rfl⟩:=hr.shape;obtain⟨x,dn⟩:=j;have hR:gU W (.slice a x.args.length c) x.args:=hr.reads;have HG:=aB hG;have H2:Hid (∀w,Bl W w->fb 84 #[EV x.k x.v x.t x.n x.o (.slice a x.args.length c)] w fun e w'=>e= .returned (.bool (eH x))/\Bl w w'):=fun w hb=>d3u hx w _ ⟨_,rfl,hR.bl hb⟩ (HG.o.bl hb);show fb 89 #[.agg (fOd.cells ⟨x,dn⟩ (.slice a x.args.length c)).toArray] W fun e w'=>e= .returned (.bool (eH x))/\Bl W w';clear hr hR hG hx;generalize eH x=r2 at *;obtain⟨k,⟨v1,v2,v3⟩,xt,xn,o,args⟩:=x;simp only[Ex.k,Ex.v,Ex.t,Ex.n,Ex.o,Ex.args] at *;generalize args.length=m at *;show fb 89 #[.agg #[.int .i64 k,.int .i64 v1,.int .i64 v2,S v3,S xt,S xn,.int .i64 o,.slice a m c,.bool dn]] W _;go_enter func89,ntmps89;go_wp2_with fail;refine(H2.o _ ?_).mono ?_
 ·first |exact Bl.refl _|exact(Bl.refl _).alloc _
 rintro e w1 ⟨rfl,hb⟩;go_wp2;go_ret;exact⟨rfl,by first |exact hb|exact((Bl.refl _).alloc _).call hb⟩
end
section
theorem d6l(s x:List UInt8):∀l:List (List UInt8),jR s (x::l)=x++l.flatMap fun t=>s++t
 |[]=>by simp[jR]
 |y::r=>by
  show x++s++jR s (y::r)=_;rw[d6l s y r];simp
theorem d7l{s t:List UInt8}:∀{l:List (List UInt8)},t∈l->t.length<=(jR s l).length
 |[x],h=>by
  obtain rfl:=gQ.1 h;exact aH _
 |x::y::r,h=>by
  show _<=(x++s++jR s (y::r)).length;simp only[bD];rcases dD.1 h with rfl|h
  ·omega
  ·have:=d7l (s:=s) h;omega
def d4f(j:Jo):List UInt8:=jR [32] [d5v,d4g j.s,wOn,eY j.on]
theorem d9d(j:Jo):e0o j=[32]++d4f j:=by
 unfold e0o d4f;simp[jR]
def d2q(q:Qu):List (Bool×List UInt8):=[(true,d3h),(q.distinct,d2s),(true,jR [32] [d5q q.items,d5p,d4g q.frm]),(decide (0<q.joins.length),jR [32] (q.joins.map d4f)),(!d3i q.wher,jR [32] [d6o,eY q.wher]),
 (decide (0<q.group.length),jR [32] [d4q++[32]++wBy,jR [44,32] (q.group.map eY)]),(!d3i q.having,jR [32] [d3v,eY q.having]),(decide (0<q.orders.length),jR [32] [d5n++[32]++wBy,jR [44,32] (q.orders.map d4r)]),
 (decide (0<=q.limit),jR [32] [d6p,dQ q.limit])]
def d4a(l:List (Bool×List UInt8)):List (List UInt8):=l.flatMap fun c=>if c.1=true then[c.2] else[]
theorem d8c:∀l:List (Bool×List UInt8),(d4a l).flatMap (fun t=>[32]++t)=l.flatMap fun c=>if c.1=true then[32]++c.2 else[]
 |[]=>rfl
 |(b,t)::l=>by
  have:=d8c l;unfold d4a at this⊢;rw[List.flatMap_cons,List.flatMap_append,this,List.flatMap_cons];cases b<;>simp
theorem e2k(l:List Jo):(if 0<l.length then[32]++jR [32] (l.map d4f) else[])=l.flatMap e0o:=by
 cases l with
 |nil=>rfl
 |cons j r=>
  rw[if_pos aa,kP,d6l,List.flatMap_map,List.flatMap_cons,d9d,iK]
  congr 2
  congr 1
  funext j
  exact(d9d j).symm
theorem e5x{α β:Type}(l:List α)(x:List β):(if 0<l.length then x else[])=if l=[] then[] else x:=by cases l<;>rfl
theorem e5e(b:Bool)(x:List UInt8):(if(!b)=true then x else[])=if b=true then[] else x:=by cases b<;>rfl
theorem d6h(q:Qu):jR [32] (d4a (d2q q))=d8n q:=by
 have h1:d4a (d2q q)=d3h::d4a (d2q q).tail:=rfl;rw[h1,d6l,d8c];unfold d2q d8n;simp only[List.tail_cons,List.flatMap_cons,List.flatMap_nil,decide_eq_true_eq,e5e];rw[e2k,e5x,e5x];cases q.distinct<;>simp[jR]
theorem e2m{q:Qu}{c:Bool×List UInt8}(h:c∈d2q q)(h1:c.1=true):c.2.length<=(d8n q).length:=by
 rw[<-d6h];refine d7l ?_;unfold d4a;exact List.mem_flatMap.2 ⟨c,h,by rw[if_pos h1];simp⟩
theorem e2j(s al:List UInt8):d4t s al=if al=[] then s else jR [32] [s,wAs,al]:=by
 unfold d4t;split
 ·rfl
 ·simp[jR]
end
section
theorem d2n{w:World}{b:Nat}{q:Qu}{si sj sw sg sh so:Value}{T:TypeId}(h:w.heap[b]?=some (.cells (quC q si sj sw sg sh so).toArray T (0,0))):
  w.cell? ⟨b,0,none⟩=some (.bool q.distinct)/\w.cell? ⟨b,1,none⟩=some (si)/\w.cell? ⟨b,2,none⟩=some (S q.frm.t)/\w.cell? ⟨b,3,none⟩=some (S q.frm.al)/\w.cell? ⟨b,4,none⟩=some (sj)/\w.cell? ⟨b,5,none⟩=some (.int .i64 q.wher.k)/\w.cell? ⟨b,6,none⟩=some (.int .i64 q.wher.v.1)/\w.cell? ⟨b,7,none⟩=some (.int .i64 q.wher.v.2.1)/\w.cell? ⟨b,8,none⟩=some (S q.wher.v.2.2)/\w.cell? ⟨b,9,none⟩=some (S q.wher.t)/\w.cell? ⟨b,10,none⟩=some (S q.wher.n)/\w.cell? ⟨b,11,none⟩=some (.int .i64 q.wher.o)/\w.cell? ⟨b,12,none⟩=some (sw)/\w.cell? ⟨b,13,none⟩=some (sg)/\w.cell? ⟨b,14,none⟩=some (.int .i64 q.having.k)/\w.cell? ⟨b,15,none⟩=some (.int .i64 q.having.v.1)/\w.cell? ⟨b,16,none⟩=some (.int .i64 q.having.v.2.1)/\w.cell? ⟨b,17,none⟩=some (S q.having.v.2.2)/\w.cell? ⟨b,18,none⟩=some (S q.having.t)/\w.cell? ⟨b,19,none⟩=some (S q.having.n)/\w.cell? ⟨b,20,none⟩=some (.int .i64 q.having.o)/\w.cell? ⟨b,21,none⟩=some (sh)/\w.cell? ⟨b,22,none⟩=some (so)/\w.cell? ⟨b,23,none⟩=some (.int .i64 q.limit):=
 ⟨(aG h 0).trans rfl,(aG h 1).trans rfl,(aG h 2).trans rfl,(aG h 3).trans rfl,(aG h 4).trans rfl,(aG h 5).trans rfl,(aG h 6).trans rfl,(aG h 7).trans rfl,(aG h 8).trans rfl,(aG h 9).trans rfl,(aG h 10).trans rfl,(aG h 11).trans rfl,(aG h 12).trans rfl,(aG h 13).trans rfl,(aG h 14).trans rfl,(aG h 15).trans rfl,(aG h 16).trans rfl,(aG h 17).trans rfl,(aG h 18).trans rfl,(aG h 19).trans rfl,(aG h 20).trans rfl,(aG h 21).trans rfl,(aG h 22).trans rfl,(aG h 23).trans rfl⟩
theorem d2t.shapes{p:Nat->Prop}{W:World}{q:Qu}{si sj sw sg sh so:Value}(h:d2t p W q si sj sw sg sh so):∃ai ci aj cj aw cw ag cg ah ch ao co,si= .slice ai q.items.length ci/\sj= .slice aj q.joins.length cj/\sw= .slice aw q.wher.args.length cw/\sg= .slice ag q.group.length cg/\sh= .slice ah q.having.args.length ch/\so= .slice ao q.orders.length co:=by
 obtain⟨ai,ci,e1,-⟩:=h.items.shape;obtain⟨aj,cj,e2,-⟩:=h.joins.shape;obtain⟨aw,cw,e3⟩:=h.wher.shape;obtain⟨ag,cg,e4⟩:=h.group.shape;obtain⟨ah,ch,e5⟩:=h.having.shape;obtain⟨ao,co,e6,-⟩:=h.orders.shape;exact⟨ai,ci,aj,cj,aw,cw,ag,cg,ah,ch,ao,co,e1,e2,e3,e4,e5,e6⟩
theorem d2t.shape{p:Nat->Prop}{W:World}{q:Qu}{si sj sw sg sh so:Value}(h:d2t p W q si sj sw sg sh so):∃ai ci aj cj aw cw ag cg ah ch ao co,si= .slice ai q.items.length ci/\sj= .slice aj q.joins.length cj/\sw= .slice aw q.wher.args.length cw/\sg= .slice ag q.group.length cg/\sh= .slice ah q.having.args.length ch/\so= .slice ao q.orders.length co:=h.shapes
structure e7c(q:Qu):Prop where
 i:d4l q.items=true
 f:d4c q.frm=true
 w:d3i q.wher=true\/(d3i q.wher=false/\eH q.wher=true)
 h:d3i q.having=true\/(d3i q.having=false/\eH q.having=true/\0<q.group.length)
 l: -1<=q.limit
 j:(decide ((q.joins.length:Int)<=4)&&q.joins.all fun j=>d4c j.s&&eH j.on)=true
 g:(decide ((q.group.length:Int)<=8)&&q.group.all eH)=true
 o:(decide ((q.orders.length:Int)<=8)&&q.orders.all fun o=>eH o.x)=true
theorem d3k{q:Qu}(h:d3e q=true):e7c q:=by
 unfold d3e at h;simp only[aQ,jO,decide_eq_true_eq] at h;obtain⟨⟨⟨⟨⟨⟨⟨hi,hf⟩,hw⟩,hh⟩,hl⟩,hj⟩,hg⟩,ho⟩:=h;refine⟨hi,hf,?_,?_,hl,?_,?_,?_⟩
 ·cases hn:d3i q.wher
  ·exact .inr ⟨rfl,hw.resolve_left (by rw[hn];decide)⟩
  ·exact .inl rfl
 ·cases hn:d3i q.having
  ·have:=hh.resolve_left (by rw[hn];decide);exact .inr ⟨rfl,this.1,this.2⟩
  ·exact .inl rfl
 ·rw[aQ,decide_eq_true_eq];exact⟨by omega,hj.2⟩
 ·rw[aQ,decide_eq_true_eq];exact⟨by omega,hg.2⟩
 ·rw[aQ,decide_eq_true_eq];exact⟨by omega,ho.2⟩
theorem e2g{q:Qu}(hq:e1a q)(hr:d3e q=true)(W:World)(v:Value)(hv:d5o W q v)(hG:nD W):fb 30 #[v] W fun e w'=>e= .returned (.int .i64 0)/\Bl W w':=by
 obtain⟨si,sj,sw,sg,sh,so,rfl,hp⟩:=hv;obtain⟨ai,ci,aj,cj,aw,cw,ag,cg,ah,ch,ao,co,rfl,rfl,rfl,rfl,rfl,rfl⟩:=hp.shapes;have hr':=d3k hr;have HG:=aB hG;have H1:Hid (∀w,Bl W w->fb 65 #[.slice ai q.items.length ci] w fun e w'=>e= .returned (.bool true)/\Bl w w'):=fun w hb=>by
  have h:=e1x hq.li hq.items (hp.items.bl hb) (HG.o.bl hb);rw[hr'.i] at h;exact h
 have H2:Hid (∀w,Bl W w->fb 82 #[.agg #[S q.frm.t,S q.frm.al]] w fun e w'=>e= .returned (.bool true)/\Bl w w'):=fun w hb=>by
  have h:=d6r hq.frm w (HG.o.bl hb);rw[hr'.f] at h;exact h
 have H3:Hid (∀w,Bl W w->fb 83 #[EV q.wher.k q.wher.v q.wher.t q.wher.n q.wher.o (.slice aw q.wher.args.length cw)] w fun e w'=>e= .returned (.bool (d3i q.wher))/\Bl w w'):=fun w hb=>d5d hq.wher.parts w _ ⟨_,rfl,hp.wher.reads.bl hb⟩;have H4:Hid (∀w,Bl W w->fb 84 #[EV q.wher.k q.wher.v q.wher.t q.wher.n q.wher.o (.slice aw q.wher.args.length cw)] w fun e w'=>e= .returned (.bool (eH q.wher))/\Bl w w'):=fun w hb=>d3u hq.wher w _ ⟨_,rfl,hp.wher.reads.bl hb⟩ (HG.o.bl hb);have H5:Hid (∀w,Bl W w->fb 83 #[EV q.having.k q.having.v q.having.t q.having.n q.having.o (.slice ah q.having.args.length ch)] w fun e w'=>e= .returned (.bool (d3i q.having))/\Bl w w'):=fun w hb=>d5d hq.having.parts w _ ⟨_,rfl,hp.having.reads.bl hb⟩;have H6:Hid (∀w,Bl W w->fb 84 #[EV q.having.k q.having.v q.having.t q.having.n q.having.o (.slice ah q.having.args.length ch)] w fun e w'=>e= .returned (.bool (eH q.having))/\Bl w w'):=fun w hb=>d3u hq.having w _ ⟨_,rfl,hp.having.reads.bl hb⟩ (HG.o.bl hb);have HJ:Hid (∀w,Bl W w->fb 85 #[.slice aj q.joins.length cj,.int .i64 4,.func (.func 86) #[] #[]] w fun e w'=>e= .returned (.bool true)/\Bl w w'):=fun w hb=>by
  have h:=e2a (g:=86) d7z hq.lj (hp.joins.bl hb) 4 (p:=fun j=>d4c j.s&&eH j.on) fun y hy W' s hb' hs=>e0j (hq.joins y hy).1 (hq.joins y hy).2 hs (HG.o.bl (hb.call hb'));rw[hr'.j] at h;exact h
 have HG1:Hid (∀w,Bl W w->fb 87 #[.slice ag q.group.length cg,.int .i64 8,.func (.func 84) #[] #[]] w fun e w'=>e= .returned (.bool true)/\Bl w w'):=fun w hb=>by
  have h:=e2d (g:=84) d8y hq.lg (d8w (hp.group.bl hb)) 8 (p:=eH) fun y hy W' s hb' hs=>d3u (hq.group y hy) W' _ ⟨s,rfl,bG.reads hs⟩ (HG.o.bl (hb.call hb'));rw[hr'.g] at h;exact h
 have HO:Hid (∀w,Bl W w->fb 88 #[.slice ao q.orders.length co,.int .i64 8,.func (.func 89) #[] #[]] w fun e w'=>e= .returned (.bool true)/\Bl w w'):=fun w hb=>by
  have h:=e1z (g:=89) d7y hq.lo (hp.orders.bl hb) 8 (p:=fun o=>eH o.x) fun y hy W' s hb' hs=>e0i (hq.orders y hy) hs (HG.o.bl (hb.call hb'));rw[hr'.o] at h;exact h
 have HW:=aB hr'.w;have HH:=aB hr'.h;have hlim: -1<=q.limit:=hr'.l;have HX:=aB (aN W (.cells (quC q (.slice ai q.items.length ci) (.slice aj q.joins.length cj) (.slice aw q.wher.args.length cw) (.slice ag q.group.length cg) (.slice ah q.having.args.length ch) (.slice ao q.orders.length co)).toArray 36));have HB1:=aB ((Bl.refl W).alloc (.cells (quC q (.slice ai q.items.length ci) (.slice aj q.joins.length cj) (.slice aw q.wher.args.length cw) (.slice ag q.group.length cg) (.slice ah q.having.args.length ch) (.slice ao q.orders.length co)).toArray 36));obtain⟨c0,c1,c2,c3,c4,c5,c6,c7,c8,c9,c10,c11,c12,c13,c14,c15,c16,c17,c18,c19,c20,c21,c22,c23⟩:=d2n HX.o;clear hq hr hr' hp hG HG;go_enter func30,ntmps30;go_wp2_with fail;refine(H1.o _ HB1.o).mono ?_;rintro e w9 ⟨rfl,hb⟩
 replace HB1:=aB (HB1.o.call hb)
 replace HX:=aB ((hb.block _ (aC.1 HX.o).1).trans HX.o)
 clear hb c0 c1 c2 c3 c4 c5 c6 c7 c8 c9 c10 c11 c12 c13 c14 c15 c16 c17 c18 c19 c20 c21 c22 c23;obtain⟨c0,c1,c2,c3,c4,c5,c6,c7,c8,c9,c10,c11,c12,c13,c14,c15,c16,c17,c18,c19,c20,c21,c22,c23⟩:=d2n HX.o;go_wp2_with fail;refine(H2.o _ HB1.o).mono ?_;rintro e w9 ⟨rfl,hb⟩
 replace HB1:=aB (HB1.o.call hb)
 replace HX:=aB ((hb.block _ (aC.1 HX.o).1).trans HX.o)
 clear hb c0 c1 c2 c3 c4 c5 c6 c7 c8 c9 c10 c11 c12 c13 c14 c15 c16 c17 c18 c19 c20 c21 c22 c23;obtain⟨c0,c1,c2,c3,c4,c5,c6,c7,c8,c9,c10,c11,c12,c13,c14,c15,c16,c17,c18,c19,c20,c21,c22,c23⟩:=d2n HX.o;rcases HW.o with hn|⟨hn,hn2⟩
 ·have HN1:Hid (∀w,Bl W w->fb 83 #[EV q.wher.k q.wher.v q.wher.t q.wher.n q.wher.o (.slice aw q.wher.args.length cw)] w fun e w'=>e= .returned (.bool true)/\Bl w w'):=by
   have h:=H3.o;rw[hn] at h;exact h
  clear hn;go_wp2_with fail;refine(HN1.o _ HB1.o).mono ?_;rintro e w9 ⟨rfl,hb⟩
  replace HB1:=aB (HB1.o.call hb)
  replace HX:=aB ((hb.block _ (aC.1 HX.o).1).trans HX.o)
  clear hb c0 c1 c2 c3 c4 c5 c6 c7 c8 c9 c10 c11 c12 c13 c14 c15 c16 c17 c18 c19 c20 c21 c22 c23;obtain⟨c0,c1,c2,c3,c4,c5,c6,c7,c8,c9,c10,c11,c12,c13,c14,c15,c16,c17,c18,c19,c20,c21,c22,c23⟩:=d2n HX.o;rcases HH.o with hn|⟨hn,hn2,hn3⟩
  ·have HN2:Hid (∀w,Bl W w->fb 83 #[EV q.having.k q.having.v q.having.t q.having.n q.having.o (.slice ah q.having.args.length ch)] w fun e w'=>e= .returned (.bool true)/\Bl w w'):=by
    have h:=H5.o;rw[hn] at h;exact h
   clear hn H5 H6 H3 H4;go_wp2_with fail;refine(HN2.o _ HB1.o).mono ?_;rintro e w9 ⟨rfl,hb⟩
   replace HB1:=aB (HB1.o.call hb)
   replace HX:=aB ((hb.block _ (aC.1 HX.o).1).trans HX.o)
   clear hb c0 c1 c2 c3 c4 c5 c6 c7 c8 c9 c10 c11 c12 c13 c14 c15 c16 c17 c18 c19 c20 c21 c22 c23;obtain⟨c0,c1,c2,c3,c4,c5,c6,c7,c8,c9,c10,c11,c12,c13,c14,c15,c16,c17,c18,c19,c20,c21,c22,c23⟩:=d2n HX.o;go_wp2_with fail;refine(HJ.o _ HB1.o).mono ?_;rintro e w9 ⟨rfl,hb⟩
   replace HB1:=aB (HB1.o.call hb)
   replace HX:=aB ((hb.block _ (aC.1 HX.o).1).trans HX.o)
   clear hb c0 c1 c2 c3 c4 c5 c6 c7 c8 c9 c10 c11 c12 c13 c14 c15 c16 c17 c18 c19 c20 c21 c22 c23;obtain⟨c0,c1,c2,c3,c4,c5,c6,c7,c8,c9,c10,c11,c12,c13,c14,c15,c16,c17,c18,c19,c20,c21,c22,c23⟩:=d2n HX.o;go_wp2_with fail;refine(HG1.o _ HB1.o).mono ?_;rintro e w9 ⟨rfl,hb⟩
   replace HB1:=aB (HB1.o.call hb)
   replace HX:=aB ((hb.block _ (aC.1 HX.o).1).trans HX.o)
   clear hb c0 c1 c2 c3 c4 c5 c6 c7 c8 c9 c10 c11 c12 c13 c14 c15 c16 c17 c18 c19 c20 c21 c22 c23;obtain⟨c0,c1,c2,c3,c4,c5,c6,c7,c8,c9,c10,c11,c12,c13,c14,c15,c16,c17,c18,c19,c20,c21,c22,c23⟩:=d2n HX.o;go_wp2_with fail;refine(HO.o _ HB1.o).mono ?_;rintro e w9 ⟨rfl,hb⟩
   replace HB1:=aB (HB1.o.call hb)
   replace HX:=aB ((hb.block _ (aC.1 HX.o).1).trans HX.o)
   clear hb c0 c1 c2 c3 c4 c5 c6 c7 c8 c9 c10 c11 c12 c13 c14 c15 c16 c17 c18 c19 c20 c21 c22 c23;obtain⟨c0,c1,c2,c3,c4,c5,c6,c7,c8,c9,c10,c11,c12,c13,c14,c15,c16,c17,c18,c19,c20,c21,c22,c23⟩:=d2n HX.o;go_wp2;go_ret;exact⟨rfl,HB1.o⟩
  ·have HN2:Hid (∀w,Bl W w->fb 83 #[EV q.having.k q.having.v q.having.t q.having.n q.having.o (.slice ah q.having.args.length ch)] w fun e w'=>e= .returned (.bool false)/\Bl w w'):=by
    have h:=H5.o;rw[hn] at h;exact h
   have HN3:Hid (∀w,Bl W w->fb 84 #[EV q.having.k q.having.v q.having.t q.having.n q.having.o (.slice ah q.having.args.length ch)] w fun e w'=>e= .returned (.bool true)/\Bl w w'):=by
    have h:=H6.o;rw[hn2] at h;exact h
   have hn4:(0:Int)<(q.group.length:Int):=aE;clear hn hn2 hn3 H5 H6 H3 H4;go_wp2_with fail;refine(HN2.o _ HB1.o).mono ?_;rintro e w9 ⟨rfl,hb⟩
   replace HB1:=aB (HB1.o.call hb)
   replace HX:=aB ((hb.block _ (aC.1 HX.o).1).trans HX.o)
   clear hb c0 c1 c2 c3 c4 c5 c6 c7 c8 c9 c10 c11 c12 c13 c14 c15 c16 c17 c18 c19 c20 c21 c22 c23;obtain⟨c0,c1,c2,c3,c4,c5,c6,c7,c8,c9,c10,c11,c12,c13,c14,c15,c16,c17,c18,c19,c20,c21,c22,c23⟩:=d2n HX.o;go_wp2_with fail;refine(HN3.o _ HB1.o).mono ?_;rintro e w9 ⟨rfl,hb⟩
   replace HB1:=aB (HB1.o.call hb)
   replace HX:=aB ((hb.block _ (aC.1 HX.o).1).trans HX.o)
   clear hb c0 c1 c2 c3 c4 c5 c6 c7 c8 c9 c10 c11 c12 c13 c14 c15 c16 c17 c18 c19 c20 c21 c22 c23;obtain⟨c0,c1,c2,c3,c4,c5,c6,c7,c8,c9,c10,c11,c12,c13,c14,c15,c16,c17,c18,c19,c20,c21,c22,c23⟩:=d2n HX.o;go_wp2_with fail;refine(HJ.o _ HB1.o).mono ?_;rintro e w9 ⟨rfl,hb⟩
   replace HB1:=aB (HB1.o.call hb)
   replace HX:=aB ((hb.block _ (aC.1 HX.o).1).trans HX.o)
   clear hb c0 c1 c2 c3 c4 c5 c6 c7 c8 c9 c10 c11 c12 c13 c14 c15 c16 c17 c18 c19 c20 c21 c22 c23;obtain⟨c0,c1,c2,c3,c4,c5,c6,c7,c8,c9,c10,c11,c12,c13,c14,c15,c16,c17,c18,c19,c20,c21,c22,c23⟩:=d2n HX.o;go_wp2_with fail;refine(HG1.o _ HB1.o).mono ?_;rintro e w9 ⟨rfl,hb⟩
   replace HB1:=aB (HB1.o.call hb)
   replace HX:=aB ((hb.block _ (aC.1 HX.o).1).trans HX.o)
   clear hb c0 c1 c2 c3 c4 c5 c6 c7 c8 c9 c10 c11 c12 c13 c14 c15 c16 c17 c18 c19 c20 c21 c22 c23;obtain⟨c0,c1,c2,c3,c4,c5,c6,c7,c8,c9,c10,c11,c12,c13,c14,c15,c16,c17,c18,c19,c20,c21,c22,c23⟩:=d2n HX.o;go_wp2_with fail;refine(HO.o _ HB1.o).mono ?_;rintro e w9 ⟨rfl,hb⟩
   replace HB1:=aB (HB1.o.call hb)
   replace HX:=aB ((hb.block _ (aC.1 HX.o).1).trans HX.o)
   clear hb c0 c1 c2 c3 c4 c5 c6 c7 c8 c9 c10 c11 c12 c13 c14 c15 c16 c17 c18 c19 c20 c21 c22 c23;obtain⟨c0,c1,c2,c3,c4,c5,c6,c7,c8,c9,c10,c11,c12,c13,c14,c15,c16,c17,c18,c19,c20,c21,c22,c23⟩:=d2n HX.o;go_wp2;go_ret;exact⟨rfl,HB1.o⟩
 ·have HN1:Hid (∀w,Bl W w->fb 83 #[EV q.wher.k q.wher.v q.wher.t q.wher.n q.wher.o (.slice aw q.wher.args.length cw)] w fun e w'=>e= .returned (.bool false)/\Bl w w'):=by
   have h:=H3.o;rw[hn] at h;exact h
  have HN4:Hid (∀w,Bl W w->fb 84 #[EV q.wher.k q.wher.v q.wher.t q.wher.n q.wher.o (.slice aw q.wher.args.length cw)] w fun e w'=>e= .returned (.bool true)/\Bl w w'):=by
   have h:=H4.o;rw[hn2] at h;exact h
  clear hn hn2;go_wp2_with fail;refine(HN1.o _ HB1.o).mono ?_;rintro e w9 ⟨rfl,hb⟩
  replace HB1:=aB (HB1.o.call hb)
  replace HX:=aB ((hb.block _ (aC.1 HX.o).1).trans HX.o)
  clear hb c0 c1 c2 c3 c4 c5 c6 c7 c8 c9 c10 c11 c12 c13 c14 c15 c16 c17 c18 c19 c20 c21 c22 c23;obtain⟨c0,c1,c2,c3,c4,c5,c6,c7,c8,c9,c10,c11,c12,c13,c14,c15,c16,c17,c18,c19,c20,c21,c22,c23⟩:=d2n HX.o;go_wp2_with fail;refine(HN4.o _ HB1.o).mono ?_;rintro e w9 ⟨rfl,hb⟩
  replace HB1:=aB (HB1.o.call hb)
  replace HX:=aB ((hb.block _ (aC.1 HX.o).1).trans HX.o)
  clear hb c0 c1 c2 c3 c4 c5 c6 c7 c8 c9 c10 c11 c12 c13 c14 c15 c16 c17 c18 c19 c20 c21 c22 c23;obtain⟨c0,c1,c2,c3,c4,c5,c6,c7,c8,c9,c10,c11,c12,c13,c14,c15,c16,c17,c18,c19,c20,c21,c22,c23⟩:=d2n HX.o;rcases HH.o with hn|⟨hn,hn2,hn3⟩
  ·have HN2:Hid (∀w,Bl W w->fb 83 #[EV q.having.k q.having.v q.having.t q.having.n q.having.o (.slice ah q.having.args.length ch)] w fun e w'=>e= .returned (.bool true)/\Bl w w'):=by
    have h:=H5.o;rw[hn] at h;exact h
   clear hn H5 H6 H3 H4;go_wp2_with fail;refine(HN2.o _ HB1.o).mono ?_;rintro e w9 ⟨rfl,hb⟩
   replace HB1:=aB (HB1.o.call hb)
   replace HX:=aB ((hb.block _ (aC.1 HX.o).1).trans HX.o)
   clear hb c0 c1 c2 c3 c4 c5 c6 c7 c8 c9 c10 c11 c12 c13 c14 c15 c16 c17 c18 c19 c20 c21 c22 c23;obtain⟨c0,c1,c2,c3,c4,c5,c6,c7,c8,c9,c10,c11,c12,c13,c14,c15,c16,c17,c18,c19,c20,c21,c22,c23⟩:=d2n HX.o;go_wp2_with fail;refine(HJ.o _ HB1.o).mono ?_;rintro e w9 ⟨rfl,hb⟩
   replace HB1:=aB (HB1.o.call hb)
   replace HX:=aB ((hb.block _ (aC.1 HX.o).1).trans HX.o)
   clear hb c0 c1 c2 c3 c4 c5 c6 c7 c8 c9 c10 c11 c12 c13 c14 c15 c16 c17 c18 c19 c20 c21 c22 c23;obtain⟨c0,c1,c2,c3,c4,c5,c6,c7,c8,c9,c10,c11,c12,c13,c14,c15,c16,c17,c18,c19,c20,c21,c22,c23⟩:=d2n HX.o;go_wp2_with fail;refine(HG1.o _ HB1.o).mono ?_;rintro e w9 ⟨rfl,hb⟩
   replace HB1:=aB (HB1.o.call hb)
   replace HX:=aB ((hb.block _ (aC.1 HX.o).1).trans HX.o)
   clear hb c0 c1 c2 c3 c4 c5 c6 c7 c8 c9 c10 c11 c12 c13 c14 c15 c16 c17 c18 c19 c20 c21 c22 c23;obtain⟨c0,c1,c2,c3,c4,c5,c6,c7,c8,c9,c10,c11,c12,c13,c14,c15,c16,c17,c18,c19,c20,c21,c22,c23⟩:=d2n HX.o;go_wp2_with fail;refine(HO.o _ HB1.o).mono ?_;rintro e w9 ⟨rfl,hb⟩
   replace HB1:=aB (HB1.o.call hb)
   replace HX:=aB ((hb.block _ (aC.1 HX.o).1).trans HX.o)
   clear hb c0 c1 c2 c3 c4 c5 c6 c7 c8 c9 c10 c11 c12 c13 c14 c15 c16 c17 c18 c19 c20 c21 c22 c23;obtain⟨c0,c1,c2,c3,c4,c5,c6,c7,c8,c9,c10,c11,c12,c13,c14,c15,c16,c17,c18,c19,c20,c21,c22,c23⟩:=d2n HX.o;go_wp2;go_ret;exact⟨rfl,HB1.o⟩
  ·have HN2:Hid (∀w,Bl W w->fb 83 #[EV q.having.k q.having.v q.having.t q.having.n q.having.o (.slice ah q.having.args.length ch)] w fun e w'=>e= .returned (.bool false)/\Bl w w'):=by
    have h:=H5.o;rw[hn] at h;exact h
   have HN3:Hid (∀w,Bl W w->fb 84 #[EV q.having.k q.having.v q.having.t q.having.n q.having.o (.slice ah q.having.args.length ch)] w fun e w'=>e= .returned (.bool true)/\Bl w w'):=by
    have h:=H6.o;rw[hn2] at h;exact h
   have hn4:(0:Int)<(q.group.length:Int):=aE;clear hn hn2 hn3 H5 H6 H3 H4;go_wp2_with fail;refine(HN2.o _ HB1.o).mono ?_;rintro e w9 ⟨rfl,hb⟩
   replace HB1:=aB (HB1.o.call hb)
   replace HX:=aB ((hb.block _ (aC.1 HX.o).1).trans HX.o)
   clear hb c0 c1 c2 c3 c4 c5 c6 c7 c8 c9 c10 c11 c12 c13 c14 c15 c16 c17 c18 c19 c20 c21 c22 c23;obtain⟨c0,c1,c2,c3,c4,c5,c6,c7,c8,c9,c10,c11,c12,c13,c14,c15,c16,c17,c18,c19,c20,c21,c22,c23⟩:=d2n HX.o;go_wp2_with fail;refine(HN3.o _ HB1.o).mono ?_;rintro e w9 ⟨rfl,hb⟩
   replace HB1:=aB (HB1.o.call hb)
   replace HX:=aB ((hb.block _ (aC.1 HX.o).1).trans HX.o)
   clear hb c0 c1 c2 c3 c4 c5 c6 c7 c8 c9 c10 c11 c12 c13 c14 c15 c16 c17 c18 c19 c20 c21 c22 c23;obtain⟨c0,c1,c2,c3,c4,c5,c6,c7,c8,c9,c10,c11,c12,c13,c14,c15,c16,c17,c18,c19,c20,c21,c22,c23⟩:=d2n HX.o;go_wp2_with fail;refine(HJ.o _ HB1.o).mono ?_;rintro e w9 ⟨rfl,hb⟩
   replace HB1:=aB (HB1.o.call hb)
   replace HX:=aB ((hb.block _ (aC.1 HX.o).1).trans HX.o)
   clear hb c0 c1 c2 c3 c4 c5 c6 c7 c8 c9 c10 c11 c12 c13 c14 c15 c16 c17 c18 c19 c20 c21 c22 c23;obtain⟨c0,c1,c2,c3,c4,c5,c6,c7,c8,c9,c10,c11,c12,c13,c14,c15,c16,c17,c18,c19,c20,c21,c22,c23⟩:=d2n HX.o;go_wp2_with fail;refine(HG1.o _ HB1.o).mono ?_;rintro e w9 ⟨rfl,hb⟩
   replace HB1:=aB (HB1.o.call hb)
   replace HX:=aB ((hb.block _ (aC.1 HX.o).1).trans HX.o)
   clear hb c0 c1 c2 c3 c4 c5 c6 c7 c8 c9 c10 c11 c12 c13 c14 c15 c16 c17 c18 c19 c20 c21 c22 c23;obtain⟨c0,c1,c2,c3,c4,c5,c6,c7,c8,c9,c10,c11,c12,c13,c14,c15,c16,c17,c18,c19,c20,c21,c22,c23⟩:=d2n HX.o;go_wp2_with fail;refine(HO.o _ HB1.o).mono ?_;rintro e w9 ⟨rfl,hb⟩
   replace HB1:=aB (HB1.o.call hb)
   replace HX:=aB ((hb.block _ (aC.1 HX.o).1).trans HX.o)
   clear hb c0 c1 c2 c3 c4 c5 c6 c7 c8 c9 c10 c11 c12 c13 c14 c15 c16 c17 c18 c19 c20 c21 c22 c23;obtain⟨c0,c1,c2,c3,c4,c5,c6,c7,c8,c9,c10,c11,c12,c13,c14,c15,c16,c17,c18,c19,c20,c21,c22,c23⟩:=d2n HX.o;go_wp2;go_ret;exact⟨rfl,HB1.o⟩
end
section
attribute [local go_sem] nC
abbrev Wh(α:Type):=α×Option Addr×Nat
section
variable {α:Type}
def Form.sv(F:Form α)(q:Wh α):Value:= .slice q.2.1 (F.ex q.1).args.length q.2.2
def Form.v(F:Form α)(q:Wh α):Value:= .agg (F.cells q.1 (F.sv q)).toArray
def d7o(F:Form α)(z:Wh α)(n₀:Nat)(W:World)(sv:Value)(zs:List (Wh α)):Prop:=
 ∃a cap,sv= .slice a zs.length cap/\∀j,j<zs.length->∃b off,a=some ⟨b,off,none⟩/\b<n₀/\d2k W b (off+j * F.n) (F.cells (zs[j]?.getD z).1 (F.sv (zs[j]?.getD z)))
theorem d7o.any{F:Form α}{z:Wh α}{n₀:Nat}{W:World}{sv:Value}{zs:List (Wh α)}(k:d7o F z n₀ W sv zs)(z':Wh α):d7o F z' n₀ W sv zs:=by
 obtain⟨a,cap,e,hc⟩:=k;refine⟨a,cap,e,fun j hj=>?_⟩;have h:=hc j hj;rw[aP hj,oQ] at h⊢;exact h
theorem d7o.below{F:Form α}{z:Wh α}{n₀:Nat}{A B:World}(h:Below n₀ A B){sv:Value}{zs:List (Wh α)}(k:d7o F z n₀ A sv zs):d7o F z n₀ B sv zs:=by
 obtain⟨a,cap,e,hc⟩:=k;refine⟨a,cap,e,fun j hj=>?_⟩;obtain⟨b,off,e2,hb,hcs⟩:=hc j hj;exact⟨b,off,e2,hb,hcs.keep (h.block b hb)⟩
theorem d6w{F:Form α}{p:Nat->Prop}(z:Wh α){W:World}{sv:Value}{l:List α}(h:d2p F p W sv l):∃zs:List (Wh α),zs.map (·.1)=l/\d7o F z W.heap.size W sv zs/\∀q∈zs,bG p W (F.sv q) (F.ex q.1).args:=by
 obtain⟨a,cap,s,e,h⟩:=h;have hs:∀j,∃p:Option Addr×Nat,∀x,l[j]?=some x->s j= .slice p.1 (F.ex x).args.length p.2:=fun j=>by
  cases hx:l[j]? with
  |none=>exact⟨(none,0),fun x h=>by cases h⟩
  |some x=>
   obtain⟨-,-,-,-,-,-,hr⟩:=h j x hx;obtain⟨a',c',e⟩:=hr.shape;exact⟨(a',c'),fun y hy=>by injection hy with hy;subst hy;exact e⟩
 obtain⟨G,hG⟩:=Classical.axiomOfChoice hs;have hg:∀j (hj:j<l.length),(((iU l.length).map fun j=>((l[j]?.getD z.1,G j):Wh α))[j]?.getD z)=((l[j],G j):Wh α):=fun j hj=>(by simp[hj]);refine⟨(iU l.length).map fun j=>(l[j]?.getD z.1,G j),?_,⟨a,cap,by simpa using e,fun j hj=>?_⟩,fun q hq=>?_⟩
 ·apply kX
  ·simp
  ·intro i h1 h2;have:i<l.length:=h2;simp[this]
 ·have hj':j<l.length:=by simpa using hj
  rw[hg j hj'];have hx:l[j]?=some l[j]:=aP hj';obtain⟨b,off,ea,hb,hl,hc,hr⟩:=h j _ hx;rw[hG j _ hx] at hc;exact⟨b,off,ea,hl,hc⟩
 ·obtain⟨j,hj,rfl⟩:=List.mem_map.1 hq;have hj':j<l.length:=cR;have hx:l[j]?=some l[j]:=aP hj';obtain⟨b,off,ea,hb,hl,hc,hr⟩:=h j _ hx;rw[hG j _ hx] at hr;rw[hx,oQ];exact hr
end
def itZ:Wh It:=(⟨false,[],zeroE,[]⟩,none,0)
def joZ:Wh Jo:=(⟨⟨[],[]⟩,zeroE⟩,none,0)
def odZ:Wh Od:=(⟨zeroE,false⟩,none,0)
theorem e2w(z:Wh It)(F:Fence)(n:Nat)(h7:F.fn 179)(hro:F.round=none)(hn:1<=n)(l Bs n₀ b off len cap:Nat)(zs:List (Wh It))(hreach:len<=1000000)(hb:0<len->b<n₀)(J Jx:List Nat->World->Prop)(hJ:∀pre W o,J pre W->J pre (W.alloc o))
  (hY:∀pre x W,J pre W->pre.length<len->YieldAt F (n-1) prog l #[Form.v fIt (zs[x]?.getD z)] W fun e W'=>
   (e= .returned (.bool true)/\J (pre++[x]) W'/\Below n₀ W W')\/(e= .returned (.bool false)/\Jx (pre++[x]) W'))
  (W:World) (hn₀:n₀<=W.heap.size) (hBs:W.cell? ⟨Bs,0,none⟩=some (.slice (some ⟨b,off,none⟩) len cap)) (hc:∀j,j<len->d2k W b (off+j * 11) (fIt.cells (zs[j]?.getD z).1 (Form.sv fIt (zs[j]?.getD z)))) (h0:J [] W):
  CallsIn F n prog 179 #[.func (.yield l) #[] #[],.pointer (some ⟨Bs,0,none⟩)] W fun e W'=>(∃v,e= .returned v)/\
   ((∃ys,ys=upto (fun j=>j) len/\J ys W')\/(∃pre,(∃k,k<=len/\pre=upto (fun j=>j) k)/\Jx pre W')):=by
 refine callsIn_of_wp func179 rfl h7 ?_ hro;simp only[ntmps179,gG,aX,bL,Nat.reduceAdd,Nat.reduceSub,eX,eU,gH,fD,cB,bE]
 gi_wp2
 gi_loopw [7] (fun i wr=>∃k:Nat,k<=len/\i= .int .i64 k/\J (upto (fun j=>j) k) wr/\Hid (Below n₀ W wr))
  (fun i _=>len-(intOf i).toNat)
 case atStart=>exact⟨0,dL _,rfl,h0,bS _ _⟩
 case round=>
  obtain⟨k,hk,rfl,hJs,HN⟩:=hrel;by_cases hlt:k<len
  ·have HY:=aB (fun o=>hY _ k (wr.alloc o) (hJ _ _ _ hJs) dm);have hzw:=HN.o.size;have hcs:=(hc k hlt).keep (HN.o.block b (hb aE));generalize hz:zs[k]?.getD z=zz at *;have HZ:=aB hz;clear hz;obtain⟨⟨st,tt,⟨zk,⟨z1,z2,z3⟩,zt,zn,zo,za⟩,al⟩,ad,ca⟩:=zz;have e0:wr.cell? ⟨b,off+k * 11,none⟩=some (.bool st):=hcs 0 _ rfl;have e1:wr.cell? ⟨b,off+k * 11+1,none⟩=some (S tt):=hcs 1 _ rfl;have e2:wr.cell? ⟨b,off+k * 11+2,none⟩=some (.int .i64 zk):=hcs 2 _ rfl;have e3:wr.cell? ⟨b,off+k * 11+3,none⟩=some (.int .i64 z1):=hcs 3 _ rfl;have e4:wr.cell? ⟨b,off+k * 11+4,none⟩=some (.int .i64 z2):=hcs 4 _ rfl;have e5:wr.cell? ⟨b,off+k * 11+5,none⟩=some (S z3):=hcs 5 _ rfl;have e6:wr.cell? ⟨b,off+k * 11+6,none⟩=some (S zt):=hcs 6 _ rfl;have e7:wr.cell? ⟨b,off+k * 11+7,none⟩=some (S zn):=hcs 7 _ rfl;have e8:wr.cell? ⟨b,off+k * 11+8,none⟩=some (.int .i64 zo):=hcs 8 _ rfl;have e9:wr.cell? ⟨b,off+k * 11+9,none⟩=some (.slice ad za.length ca):=hcs 9 _ rfl;have e10:wr.cell? ⟨b,off+k * 11+10,none⟩=some (S al):=hcs 10 _ rfl;clear hcs;obtain⟨fn,tmps,assign,body,hy,hR⟩:=HY.o (.cells #[.bool st,S tt,.int .i64 zk,.int .i64 z1,.int .i64 z2,S z3,S zt,S zn,.int .i64 zo,.slice ad za.length ca,S al] 91)
   replace hy:(Instr.yield l #[.agg #[.bool st,S tt,.int .i64 zk,.int .i64 z1,.int .i64 z2,S z3,S zt,S zn,.int .i64 zo,.slice ad za.length ca,S al]]).run prog (wr.alloc (.cells #[.bool st,S tt,.int .i64 zk,.int .i64 z1,.int .i64 z2,S z3,S zt,S zn,.int .i64 zo,.slice ad za.length ca,S al] 91))= .ok (.round l fn tmps assign body) (wr.alloc (.cells #[.bool st,S tt,.int .i64 zk,.int .i64 z1,.int .i64 z2,S z3,S zt,S zn,.int .i64 zo,.slice ad za.length ca,S al] 91)):=hy
   gi_wp2
   refine hR.mono ?_;rintro e W3 (⟨rfl,hJ3,hk3⟩|⟨rfl,hJx3⟩)
   ·have HK3:=aB hk3;clear hk3
    gi_wp2
    go_roundw
    case rel=>exact⟨k+1,by omega,by simp,by rw[wH];exact hJ3,HN.o.trans (((bS _ wr).alloc aE _).trans HK3.o)⟩
    case measure=>simp[intOf];omega
   ·gi_wp2
    refine bodyPost_ret (results_none rfl _ _ _) rfl ?_;exact⟨⟨_,rfl⟩,.inr ⟨_,⟨k+1,by omega,by rw[wH]⟩,hJx3⟩⟩
  ·obtain rfl:k=len:=by omega
   gi_wp2
   go_end0;exact⟨⟨_,rfl⟩,.inl ⟨_,rfl,hJs⟩⟩
theorem e1j(a:Option Addr)(cap:Nat)(F:Fence)(n:Nat)(h7:F.fn 179)(hro:F.round=none)(l Bs:Nat)(J:List Nat->World->Prop)(W:World)(hBs:W.cell? ⟨Bs,0,none⟩=some (.slice a 0 cap))(h0:J [] W):
  CallsIn F n prog 179 #[.func (.yield l) #[] #[],.pointer (some ⟨Bs,0,none⟩)] W fun e W'=>(∃v,e= .returned v)/\J [] W':=by
 refine callsIn_of_wp func179 rfl h7 ?_ hro;simp only[ntmps179,gG,aX,bL,Nat.reduceAdd,Nat.reduceSub,eX,eU,gH,fD,cB,bE]
 gi_wp2
 gi_loopw [7] (fun i wr=>i= .int .i64 0/\J [] wr) (fun _ _=>0)
 case atStart=>exact⟨rfl,h0⟩
 case round=>
  obtain⟨rfl,hJs⟩:=hrel
  gi_wp2
  go_end0;exact⟨⟨_,rfl⟩,hJs⟩
theorem e4j(F:Fence)(n:Nat)(h5:F.fn 136)(hro:F.round=none)(a:Option Addr)(len cap:Nat)(w:World):
  CallsIn F n prog 136 #[.slice a len cap] w fun e w'=>e= .returned (.func (.func 179) #[] #[.pointer (some ⟨w.heap.size,0,none⟩)])/\w'=w.alloc (.cells #[.slice a len cap] 22):=by
 refine callsIn_of_wp func136 rfl h5 ?_ hro;simp only[ntmps136,gG,aX,bL,Nat.reduceAdd,Nat.reduceSub,eX,eU,gH,fD,cB,bE]
 gi_wp2
 go_ret;exact⟨rfl,rfl⟩
theorem d9z(z:Wh It)(F:Fence)(n:Nat)(h7:F.fn 179)(hro:F.round=none)(hn:1<=n)(Bs n₀:Nat)(sv:Value)(zs:List (Wh It))(hreach:zs.length<=1000000)(w:World)(hBs:Bs<w.heap.size)(hn₀:n₀<=w.heap.size)
  (hc:w.cell? ⟨Bs,0,none⟩=some sv) (hI:d7o fIt z n₀ w sv zs):
  SeqStopsK F n prog 179 #[.pointer (some ⟨Bs,0,none⟩)] (fun x:Nat=> #[Form.v fIt (zs[x]?.getD z)]) (Below n₀) (fun ys=>ys=iU zs.length) (fun pre=>pre<+:iU zs.length) zs.length w:=fun l J Jx W hW hJ _ hY h0=>by
 have hc':=(hW.cell (p:=⟨Bs,0,none⟩) hBs).trans hc;obtain⟨a,cap,rfl,hcs⟩:=hI.below (hW.mono hn₀);by_cases hz:zs=[]
 ·subst hz;exact(e1j a cap F n h7 hro l Bs J W hc' h0).mono fun e W' ⟨he,hj⟩=>⟨he,.inl ⟨_,rfl,hj⟩⟩
 ·have hpos:0<zs.length:=by cases zs with |nil=>exact absurd rfl hz|cons _ _=>simp
  obtain⟨b,off,rfl,hb,-⟩:=hcs 0 hpos;have hcs':∀j,j<zs.length->d2k W b (off+j * 11) (fIt.cells (zs[j]?.getD z).1 (Form.sv fIt (zs[j]?.getD z))):=fun j hj=>by
   obtain⟨b',off',e,_,c⟩:=hcs j hj;injection e with e;injection e with e1 e2 _;subst e1;subst e2;exact c
  refine(e2w z F n h7 hro hn l Bs n₀ b off zs.length cap zs hreach (fun _=>hb) J Jx (fun pre W1 o h=>hJ pre W1 _ none h (World.grownBy_alloc _ _ none) (fun r e=>by cases e)) hY W (jH hn₀ hW.size) hc' hcs' h0).mono ?_;rintro e W' ⟨he,⟨ys,rfl,hj⟩|⟨pre,⟨k,hk,rfl⟩,hj⟩⟩
  ·exact⟨he,.inl ⟨_,a1p _,hj⟩⟩
  ·exact⟨he,.inr ⟨_,by rw[a1p];exact a5l hk,hj⟩⟩
theorem e2v(z:Wh Jo)(F:Fence)(n:Nat)(h7:F.fn 184)(hro:F.round=none)(hn:1<=n)(l Bs n₀ b off len cap:Nat)(zs:List (Wh Jo))(hreach:len<=1000000)(hb:0<len->b<n₀)(J Jx:List Nat->World->Prop)(hJ:∀pre W o,J pre W->J pre (W.alloc o))
  (hY:∀pre x W,J pre W->pre.length<len->YieldAt F (n-1) prog l #[Form.v fJo (zs[x]?.getD z)] W fun e W'=>
   (e= .returned (.bool true)/\J (pre++[x]) W'/\Below n₀ W W')\/(e= .returned (.bool false)/\Jx (pre++[x]) W'))
  (W:World) (hn₀:n₀<=W.heap.size) (hBs:W.cell? ⟨Bs,0,none⟩=some (.slice (some ⟨b,off,none⟩) len cap)) (hc:∀j,j<len->d2k W b (off+j * 10) (fJo.cells (zs[j]?.getD z).1 (Form.sv fJo (zs[j]?.getD z)))) (h0:J [] W):
  CallsIn F n prog 184 #[.func (.yield l) #[] #[],.pointer (some ⟨Bs,0,none⟩)] W fun e W'=>(∃v,e= .returned v)/\
   ((∃ys,ys=upto (fun j=>j) len/\J ys W')\/(∃pre,(∃k,k<=len/\pre=upto (fun j=>j) k)/\Jx pre W')):=by
 refine callsIn_of_wp func184 rfl h7 ?_ hro;simp only[ntmps184,gG,aX,bL,Nat.reduceAdd,Nat.reduceSub,eX,eU,gH,fD,cB,bE]
 gi_wp2
 gi_loopw [7] (fun i wr=>∃k:Nat,k<=len/\i= .int .i64 k/\J (upto (fun j=>j) k) wr/\Hid (Below n₀ W wr))
  (fun i _=>len-(intOf i).toNat)
 case atStart=>exact⟨0,dL _,rfl,h0,bS _ _⟩
 case round=>
  obtain⟨k,hk,rfl,hJs,HN⟩:=hrel;by_cases hlt:k<len
  ·have HY:=aB (fun o=>hY _ k (wr.alloc o) (hJ _ _ _ hJs) dm);have hzw:=HN.o.size;have hcs:=(hc k hlt).keep (HN.o.block b (hb aE));generalize hz:zs[k]?.getD z=zz at *;have HZ:=aB hz;clear hz;obtain⟨⟨⟨jt,jal⟩,⟨zk,⟨z1,z2,z3⟩,zt,zn,zo,za⟩⟩,ad,ca⟩:=zz;have e0:wr.cell? ⟨b,off+k * 10,none⟩=some (S jt):=hcs 0 _ rfl;have e1:wr.cell? ⟨b,off+k * 10+1,none⟩=some (S jal):=hcs 1 _ rfl;have e2:wr.cell? ⟨b,off+k * 10+2,none⟩=some (.int .i64 zk):=hcs 2 _ rfl;have e3:wr.cell? ⟨b,off+k * 10+3,none⟩=some (.int .i64 z1):=hcs 3 _ rfl;have e4:wr.cell? ⟨b,off+k * 10+4,none⟩=some (.int .i64 z2):=hcs 4 _ rfl;have e5:wr.cell? ⟨b,off+k * 10+5,none⟩=some (S z3):=hcs 5 _ rfl;have e6:wr.cell? ⟨b,off+k * 10+6,none⟩=some (S zt):=hcs 6 _ rfl;have e7:wr.cell? ⟨b,off+k * 10+7,none⟩=some (S zn):=hcs 7 _ rfl;have e8:wr.cell? ⟨b,off+k * 10+8,none⟩=some (.int .i64 zo):=hcs 8 _ rfl;have e9:wr.cell? ⟨b,off+k * 10+9,none⟩=some (.slice ad za.length ca):=hcs 9 _ rfl;clear hcs;obtain⟨fn,tmps,assign,body,hy,hR⟩:=HY.o (.cells #[S jt,S jal,.int .i64 zk,.int .i64 z1,.int .i64 z2,S z3,S zt,S zn,.int .i64 zo,.slice ad za.length ca] 78)
   replace hy:(Instr.yield l #[.agg #[S jt,S jal,.int .i64 zk,.int .i64 z1,.int .i64 z2,S z3,S zt,S zn,.int .i64 zo,.slice ad za.length ca]]).run prog (wr.alloc (.cells #[S jt,S jal,.int .i64 zk,.int .i64 z1,.int .i64 z2,S z3,S zt,S zn,.int .i64 zo,.slice ad za.length ca] 78))= .ok (.round l fn tmps assign body) (wr.alloc (.cells #[S jt,S jal,.int .i64 zk,.int .i64 z1,.int .i64 z2,S z3,S zt,S zn,.int .i64 zo,.slice ad za.length ca] 78)):=hy
   gi_wp2
   refine hR.mono ?_;rintro e W3 (⟨rfl,hJ3,hk3⟩|⟨rfl,hJx3⟩)
   ·have HK3:=aB hk3;clear hk3
    gi_wp2
    go_roundw
    case rel=>exact⟨k+1,by omega,by simp,by rw[wH];exact hJ3,HN.o.trans (((bS _ wr).alloc aE _).trans HK3.o)⟩
    case measure=>simp[intOf];omega
   ·gi_wp2
    refine bodyPost_ret (results_none rfl _ _ _) rfl ?_;exact⟨⟨_,rfl⟩,.inr ⟨_,⟨k+1,by omega,by rw[wH]⟩,hJx3⟩⟩
  ·obtain rfl:k=len:=by omega
   gi_wp2
   go_end0;exact⟨⟨_,rfl⟩,.inl ⟨_,rfl,hJs⟩⟩
theorem e1i(a:Option Addr)(cap:Nat)(F:Fence)(n:Nat)(h7:F.fn 184)(hro:F.round=none)(l Bs:Nat)(J:List Nat->World->Prop)(W:World)(hBs:W.cell? ⟨Bs,0,none⟩=some (.slice a 0 cap))(h0:J [] W):
  CallsIn F n prog 184 #[.func (.yield l) #[] #[],.pointer (some ⟨Bs,0,none⟩)] W fun e W'=>(∃v,e= .returned v)/\J [] W':=by
 refine callsIn_of_wp func184 rfl h7 ?_ hro;simp only[ntmps184,gG,aX,bL,Nat.reduceAdd,Nat.reduceSub,eX,eU,gH,fD,cB,bE]
 gi_wp2
 gi_loopw [7] (fun i wr=>i= .int .i64 0/\J [] wr) (fun _ _=>0)
 case atStart=>exact⟨rfl,h0⟩
 case round=>
  obtain⟨rfl,hJs⟩:=hrel
  gi_wp2
  go_end0;exact⟨⟨_,rfl⟩,hJs⟩
theorem e4i(F:Fence)(n:Nat)(h5:F.fn 154)(hro:F.round=none)(a:Option Addr)(len cap:Nat)(w:World):
  CallsIn F n prog 154 #[.slice a len cap] w fun e w'=>e= .returned (.func (.func 184) #[] #[.pointer (some ⟨w.heap.size,0,none⟩)])/\w'=w.alloc (.cells #[.slice a len cap] 25):=by
 refine callsIn_of_wp func154 rfl h5 ?_ hro;simp only[ntmps154,gG,aX,bL,Nat.reduceAdd,Nat.reduceSub,eX,eU,gH,fD,cB,bE]
 gi_wp2
 go_ret;exact⟨rfl,rfl⟩
theorem d9y(z:Wh Jo)(F:Fence)(n:Nat)(h7:F.fn 184)(hro:F.round=none)(hn:1<=n)(Bs n₀:Nat)(sv:Value)(zs:List (Wh Jo))(hreach:zs.length<=1000000)(w:World)(hBs:Bs<w.heap.size)(hn₀:n₀<=w.heap.size)
  (hc:w.cell? ⟨Bs,0,none⟩=some sv) (hI:d7o fJo z n₀ w sv zs):
  SeqStopsK F n prog 184 #[.pointer (some ⟨Bs,0,none⟩)] (fun x:Nat=> #[Form.v fJo (zs[x]?.getD z)]) (Below n₀) (fun ys=>ys=iU zs.length) (fun pre=>pre<+:iU zs.length) zs.length w:=fun l J Jx W hW hJ _ hY h0=>by
 have hc':=(hW.cell (p:=⟨Bs,0,none⟩) hBs).trans hc;obtain⟨a,cap,rfl,hcs⟩:=hI.below (hW.mono hn₀);by_cases hz:zs=[]
 ·subst hz;exact(e1i a cap F n h7 hro l Bs J W hc' h0).mono fun e W' ⟨he,hj⟩=>⟨he,.inl ⟨_,rfl,hj⟩⟩
 ·have hpos:0<zs.length:=by cases zs with |nil=>exact absurd rfl hz|cons _ _=>simp
  obtain⟨b,off,rfl,hb,-⟩:=hcs 0 hpos;have hcs':∀j,j<zs.length->d2k W b (off+j * 10) (fJo.cells (zs[j]?.getD z).1 (Form.sv fJo (zs[j]?.getD z))):=fun j hj=>by
   obtain⟨b',off',e,_,c⟩:=hcs j hj;injection e with e;injection e with e1 e2 _;subst e1;subst e2;exact c
  refine(e2v z F n h7 hro hn l Bs n₀ b off zs.length cap zs hreach (fun _=>hb) J Jx (fun pre W1 o h=>hJ pre W1 _ none h (World.grownBy_alloc _ _ none) (fun r e=>by cases e)) hY W (jH hn₀ hW.size) hc' hcs' h0).mono ?_;rintro e W' ⟨he,⟨ys,rfl,hj⟩|⟨pre,⟨k,hk,rfl⟩,hj⟩⟩
  ·exact⟨he,.inl ⟨_,a1p _,hj⟩⟩
  ·exact⟨he,.inr ⟨_,by rw[a1p];exact a5l hk,hj⟩⟩
theorem e2x(z:Wh Ex)(F:Fence)(n:Nat)(h7:F.fn 186)(hro:F.round=none)(hn:1<=n)(l Bs n₀ b off len cap:Nat)(zs:List (Wh Ex))(hreach:len<=1000000)(hb:0<len->b<n₀)(J Jx:List Nat->World->Prop)(hJ:∀pre W o,J pre W->J pre (W.alloc o))
  (hY:∀pre x W,J pre W->pre.length<len->YieldAt F (n-1) prog l #[Form.v fEx (zs[x]?.getD z)] W fun e W'=>
   (e= .returned (.bool true)/\J (pre++[x]) W'/\Below n₀ W W')\/(e= .returned (.bool false)/\Jx (pre++[x]) W'))
  (W:World) (hn₀:n₀<=W.heap.size) (hBs:W.cell? ⟨Bs,0,none⟩=some (.slice (some ⟨b,off,none⟩) len cap)) (hc:∀j,j<len->d2k W b (off+j * 8) (fEx.cells (zs[j]?.getD z).1 (Form.sv fEx (zs[j]?.getD z)))) (h0:J [] W):
  CallsIn F n prog 186 #[.func (.yield l) #[] #[],.pointer (some ⟨Bs,0,none⟩)] W fun e W'=>(∃v,e= .returned v)/\
   ((∃ys,ys=upto (fun j=>j) len/\J ys W')\/(∃pre,(∃k,k<=len/\pre=upto (fun j=>j) k)/\Jx pre W')):=by
 refine callsIn_of_wp func186 rfl h7 ?_ hro;simp only[ntmps186,gG,aX,bL,Nat.reduceAdd,Nat.reduceSub,eX,eU,gH,fD,cB,bE]
 gi_wp2
 gi_loopw [7] (fun i wr=>∃k:Nat,k<=len/\i= .int .i64 k/\J (upto (fun j=>j) k) wr/\Hid (Below n₀ W wr))
  (fun i _=>len-(intOf i).toNat)
 case atStart=>exact⟨0,dL _,rfl,h0,bS _ _⟩
 case round=>
  obtain⟨k,hk,rfl,hJs,HN⟩:=hrel;by_cases hlt:k<len
  ·have HY:=aB (fun o=>hY _ k (wr.alloc o) (hJ _ _ _ hJs) dm);have hzw:=HN.o.size;have hcs:=(hc k hlt).keep (HN.o.block b (hb aE));generalize hz:zs[k]?.getD z=zz at *;have HZ:=aB hz;clear hz;obtain⟨⟨zk,⟨z1,z2,z3⟩,zt,zn,zo,za⟩,ad,ca⟩:=zz;have e0:wr.cell? ⟨b,off+k * 8,none⟩=some (.int .i64 zk):=hcs 0 _ rfl;have e1:wr.cell? ⟨b,off+k * 8+1,none⟩=some (.int .i64 z1):=hcs 1 _ rfl;have e2:wr.cell? ⟨b,off+k * 8+2,none⟩=some (.int .i64 z2):=hcs 2 _ rfl;have e3:wr.cell? ⟨b,off+k * 8+3,none⟩=some (S z3):=hcs 3 _ rfl;have e4:wr.cell? ⟨b,off+k * 8+4,none⟩=some (S zt):=hcs 4 _ rfl;have e5:wr.cell? ⟨b,off+k * 8+5,none⟩=some (S zn):=hcs 5 _ rfl;have e6:wr.cell? ⟨b,off+k * 8+6,none⟩=some (.int .i64 zo):=hcs 6 _ rfl;have e7:wr.cell? ⟨b,off+k * 8+7,none⟩=some (.slice ad za.length ca):=hcs 7 _ rfl;clear hcs;obtain⟨fn,tmps,assign,body,hy,hR⟩:=HY.o (.cells #[.int .i64 zk,.int .i64 z1,.int .i64 z2,S z3,S zt,S zn,.int .i64 zo,.slice ad za.length ca] 33)
   replace hy:(Instr.yield l #[.agg #[.int .i64 zk,.int .i64 z1,.int .i64 z2,S z3,S zt,S zn,.int .i64 zo,.slice ad za.length ca]]).run prog (wr.alloc (.cells #[.int .i64 zk,.int .i64 z1,.int .i64 z2,S z3,S zt,S zn,.int .i64 zo,.slice ad za.length ca] 33))= .ok (.round l fn tmps assign body) (wr.alloc (.cells #[.int .i64 zk,.int .i64 z1,.int .i64 z2,S z3,S zt,S zn,.int .i64 zo,.slice ad za.length ca] 33)):=hy
   gi_wp2
   refine hR.mono ?_;rintro e W3 (⟨rfl,hJ3,hk3⟩|⟨rfl,hJx3⟩)
   ·have HK3:=aB hk3;clear hk3
    gi_wp2
    go_roundw
    case rel=>exact⟨k+1,by omega,by simp,by rw[wH];exact hJ3,HN.o.trans (((bS _ wr).alloc aE _).trans HK3.o)⟩
    case measure=>simp[intOf];omega
   ·gi_wp2
    refine bodyPost_ret (results_none rfl _ _ _) rfl ?_;exact⟨⟨_,rfl⟩,.inr ⟨_,⟨k+1,by omega,by rw[wH]⟩,hJx3⟩⟩
  ·obtain rfl:k=len:=by omega
   gi_wp2
   go_end0;exact⟨⟨_,rfl⟩,.inl ⟨_,rfl,hJs⟩⟩
theorem e1k(a:Option Addr)(cap:Nat)(F:Fence)(n:Nat)(h7:F.fn 186)(hro:F.round=none)(l Bs:Nat)(J:List Nat->World->Prop)(W:World)(hBs:W.cell? ⟨Bs,0,none⟩=some (.slice a 0 cap))(h0:J [] W):
  CallsIn F n prog 186 #[.func (.yield l) #[] #[],.pointer (some ⟨Bs,0,none⟩)] W fun e W'=>(∃v,e= .returned v)/\J [] W':=by
 refine callsIn_of_wp func186 rfl h7 ?_ hro;simp only[ntmps186,gG,aX,bL,Nat.reduceAdd,Nat.reduceSub,eX,eU,gH,fD,cB,bE]
 gi_wp2
 gi_loopw [7] (fun i wr=>i= .int .i64 0/\J [] wr) (fun _ _=>0)
 case atStart=>exact⟨rfl,h0⟩
 case round=>
  obtain⟨rfl,hJs⟩:=hrel
  gi_wp2
  go_end0;exact⟨⟨_,rfl⟩,hJs⟩
theorem e4k(F:Fence)(n:Nat)(h5:F.fn 156)(hro:F.round=none)(a:Option Addr)(len cap:Nat)(w:World):
  CallsIn F n prog 156 #[.slice a len cap] w fun e w'=>e= .returned (.func (.func 186) #[] #[.pointer (some ⟨w.heap.size,0,none⟩)])/\w'=w.alloc (.cells #[.slice a len cap] 31):=by
 refine callsIn_of_wp func156 rfl h5 ?_ hro;simp only[ntmps156,gG,aX,bL,Nat.reduceAdd,Nat.reduceSub,eX,eU,gH,fD,cB,bE]
 gi_wp2
 go_ret;exact⟨rfl,rfl⟩
theorem e0a(z:Wh Ex)(F:Fence)(n:Nat)(h7:F.fn 186)(hro:F.round=none)(hn:1<=n)(Bs n₀:Nat)(sv:Value)(zs:List (Wh Ex))(hreach:zs.length<=1000000)(w:World)(hBs:Bs<w.heap.size)(hn₀:n₀<=w.heap.size)
  (hc:w.cell? ⟨Bs,0,none⟩=some sv) (hI:d7o fEx z n₀ w sv zs):
  SeqStopsK F n prog 186 #[.pointer (some ⟨Bs,0,none⟩)] (fun x:Nat=> #[Form.v fEx (zs[x]?.getD z)]) (Below n₀) (fun ys=>ys=iU zs.length) (fun pre=>pre<+:iU zs.length) zs.length w:=fun l J Jx W hW hJ _ hY h0=>by
 have hc':=(hW.cell (p:=⟨Bs,0,none⟩) hBs).trans hc;obtain⟨a,cap,rfl,hcs⟩:=hI.below (hW.mono hn₀);by_cases hz:zs=[]
 ·subst hz;exact(e1k a cap F n h7 hro l Bs J W hc' h0).mono fun e W' ⟨he,hj⟩=>⟨he,.inl ⟨_,rfl,hj⟩⟩
 ·have hpos:0<zs.length:=by cases zs with |nil=>exact absurd rfl hz|cons _ _=>simp
  obtain⟨b,off,rfl,hb,-⟩:=hcs 0 hpos;have hcs':∀j,j<zs.length->d2k W b (off+j * 8) (fEx.cells (zs[j]?.getD z).1 (Form.sv fEx (zs[j]?.getD z))):=fun j hj=>by
   obtain⟨b',off',e,_,c⟩:=hcs j hj;injection e with e;injection e with e1 e2 _;subst e1;subst e2;exact c
  refine(e2x z F n h7 hro hn l Bs n₀ b off zs.length cap zs hreach (fun _=>hb) J Jx (fun pre W1 o h=>hJ pre W1 _ none h (World.grownBy_alloc _ _ none) (fun r e=>by cases e)) hY W (jH hn₀ hW.size) hc' hcs' h0).mono ?_;rintro e W' ⟨he,⟨ys,rfl,hj⟩|⟨pre,⟨k,hk,rfl⟩,hj⟩⟩
  ·exact⟨he,.inl ⟨_,a1p _,hj⟩⟩
  ·exact⟨he,.inr ⟨_,by rw[a1p];exact a5l hk,hj⟩⟩
theorem e2u(z:Wh Od)(F:Fence)(n:Nat)(h7:F.fn 187)(hro:F.round=none)(hn:1<=n)(l Bs n₀ b off len cap:Nat)(zs:List (Wh Od))(hreach:len<=1000000)(hb:0<len->b<n₀)(J Jx:List Nat->World->Prop)(hJ:∀pre W o,J pre W->J pre (W.alloc o))
  (hY:∀pre x W,J pre W->pre.length<len->YieldAt F (n-1) prog l #[Form.v fOd (zs[x]?.getD z)] W fun e W'=>
   (e= .returned (.bool true)/\J (pre++[x]) W'/\Below n₀ W W')\/(e= .returned (.bool false)/\Jx (pre++[x]) W'))
  (W:World) (hn₀:n₀<=W.heap.size) (hBs:W.cell? ⟨Bs,0,none⟩=some (.slice (some ⟨b,off,none⟩) len cap)) (hc:∀j,j<len->d2k W b (off+j * 9) (fOd.cells (zs[j]?.getD z).1 (Form.sv fOd (zs[j]?.getD z)))) (h0:J [] W):
  CallsIn F n prog 187 #[.func (.yield l) #[] #[],.pointer (some ⟨Bs,0,none⟩)] W fun e W'=>(∃v,e= .returned v)/\
   ((∃ys,ys=upto (fun j=>j) len/\J ys W')\/(∃pre,(∃k,k<=len/\pre=upto (fun j=>j) k)/\Jx pre W')):=by
 refine callsIn_of_wp func187 rfl h7 ?_ hro;simp only[ntmps187,gG,aX,bL,Nat.reduceAdd,Nat.reduceSub,eX,eU,gH,fD,cB,bE]
 gi_wp2
 gi_loopw [7] (fun i wr=>∃k:Nat,k<=len/\i= .int .i64 k/\J (upto (fun j=>j) k) wr/\Hid (Below n₀ W wr))
  (fun i _=>len-(intOf i).toNat)
 case atStart=>exact⟨0,dL _,rfl,h0,bS _ _⟩
 case round=>
  obtain⟨k,hk,rfl,hJs,HN⟩:=hrel;by_cases hlt:k<len
  ·have HY:=aB (fun o=>hY _ k (wr.alloc o) (hJ _ _ _ hJs) dm);have hzw:=HN.o.size;have hcs:=(hc k hlt).keep (HN.o.block b (hb aE));generalize hz:zs[k]?.getD z=zz at *;have HZ:=aB hz;clear hz;obtain⟨⟨⟨zk,⟨z1,z2,z3⟩,zt,zn,zo,za⟩,dn⟩,ad,ca⟩:=zz;have e0:wr.cell? ⟨b,off+k * 9,none⟩=some (.int .i64 zk):=hcs 0 _ rfl;have e1:wr.cell? ⟨b,off+k * 9+1,none⟩=some (.int .i64 z1):=hcs 1 _ rfl;have e2:wr.cell? ⟨b,off+k * 9+2,none⟩=some (.int .i64 z2):=hcs 2 _ rfl;have e3:wr.cell? ⟨b,off+k * 9+3,none⟩=some (S z3):=hcs 3 _ rfl;have e4:wr.cell? ⟨b,off+k * 9+4,none⟩=some (S zt):=hcs 4 _ rfl;have e5:wr.cell? ⟨b,off+k * 9+5,none⟩=some (S zn):=hcs 5 _ rfl;have e6:wr.cell? ⟨b,off+k * 9+6,none⟩=some (.int .i64 zo):=hcs 6 _ rfl;have e7:wr.cell? ⟨b,off+k * 9+7,none⟩=some (.slice ad za.length ca):=hcs 7 _ rfl;have e8:wr.cell? ⟨b,off+k * 9+8,none⟩=some (.bool dn):=hcs 8 _ rfl;clear hcs;obtain⟨fn,tmps,assign,body,hy,hR⟩:=HY.o (.cells #[.int .i64 zk,.int .i64 z1,.int .i64 z2,S z3,S zt,S zn,.int .i64 zo,.slice ad za.length ca,.bool dn] 80)
   replace hy:(Instr.yield l #[.agg #[.int .i64 zk,.int .i64 z1,.int .i64 z2,S z3,S zt,S zn,.int .i64 zo,.slice ad za.length ca,.bool dn]]).run prog (wr.alloc (.cells #[.int .i64 zk,.int .i64 z1,.int .i64 z2,S z3,S zt,S zn,.int .i64 zo,.slice ad za.length ca,.bool dn] 80))= .ok (.round l fn tmps assign body) (wr.alloc (.cells #[.int .i64 zk,.int .i64 z1,.int .i64 z2,S z3,S zt,S zn,.int .i64 zo,.slice ad za.length ca,.bool dn] 80)):=hy
   gi_wp2
   refine hR.mono ?_;rintro e W3 (⟨rfl,hJ3,hk3⟩|⟨rfl,hJx3⟩)
   ·have HK3:=aB hk3;clear hk3
    gi_wp2
    go_roundw
    case rel=>exact⟨k+1,by omega,by simp,by rw[wH];exact hJ3,HN.o.trans (((bS _ wr).alloc aE _).trans HK3.o)⟩
    case measure=>simp[intOf];omega
   ·gi_wp2
    refine bodyPost_ret (results_none rfl _ _ _) rfl ?_;exact⟨⟨_,rfl⟩,.inr ⟨_,⟨k+1,by omega,by rw[wH]⟩,hJx3⟩⟩
  ·obtain rfl:k=len:=by omega
   gi_wp2
   go_end0;exact⟨⟨_,rfl⟩,.inl ⟨_,rfl,hJs⟩⟩
theorem e1h(a:Option Addr)(cap:Nat)(F:Fence)(n:Nat)(h7:F.fn 187)(hro:F.round=none)(l Bs:Nat)(J:List Nat->World->Prop)(W:World)(hBs:W.cell? ⟨Bs,0,none⟩=some (.slice a 0 cap))(h0:J [] W):
  CallsIn F n prog 187 #[.func (.yield l) #[] #[],.pointer (some ⟨Bs,0,none⟩)] W fun e W'=>(∃v,e= .returned v)/\J [] W':=by
 refine callsIn_of_wp func187 rfl h7 ?_ hro;simp only[ntmps187,gG,aX,bL,Nat.reduceAdd,Nat.reduceSub,eX,eU,gH,fD,cB,bE]
 gi_wp2
 gi_loopw [7] (fun i wr=>i= .int .i64 0/\J [] wr) (fun _ _=>0)
 case atStart=>exact⟨rfl,h0⟩
 case round=>
  obtain⟨rfl,hJs⟩:=hrel
  gi_wp2
  go_end0;exact⟨⟨_,rfl⟩,hJs⟩
theorem e4h(F:Fence)(n:Nat)(h5:F.fn 157)(hro:F.round=none)(a:Option Addr)(len cap:Nat)(w:World):
  CallsIn F n prog 157 #[.slice a len cap] w fun e w'=>e= .returned (.func (.func 187) #[] #[.pointer (some ⟨w.heap.size,0,none⟩)])/\w'=w.alloc (.cells #[.slice a len cap] 34):=by
 refine callsIn_of_wp func157 rfl h5 ?_ hro;simp only[ntmps157,gG,aX,bL,Nat.reduceAdd,Nat.reduceSub,eX,eU,gH,fD,cB,bE]
 gi_wp2
 go_ret;exact⟨rfl,rfl⟩
theorem d9x(z:Wh Od)(F:Fence)(n:Nat)(h7:F.fn 187)(hro:F.round=none)(hn:1<=n)(Bs n₀:Nat)(sv:Value)(zs:List (Wh Od))(hreach:zs.length<=1000000)(w:World)(hBs:Bs<w.heap.size)(hn₀:n₀<=w.heap.size)
  (hc:w.cell? ⟨Bs,0,none⟩=some sv) (hI:d7o fOd z n₀ w sv zs):
  SeqStopsK F n prog 187 #[.pointer (some ⟨Bs,0,none⟩)] (fun x:Nat=> #[Form.v fOd (zs[x]?.getD z)]) (Below n₀) (fun ys=>ys=iU zs.length) (fun pre=>pre<+:iU zs.length) zs.length w:=fun l J Jx W hW hJ _ hY h0=>by
 have hc':=(hW.cell (p:=⟨Bs,0,none⟩) hBs).trans hc;obtain⟨a,cap,rfl,hcs⟩:=hI.below (hW.mono hn₀);by_cases hz:zs=[]
 ·subst hz;exact(e1h a cap F n h7 hro l Bs J W hc' h0).mono fun e W' ⟨he,hj⟩=>⟨he,.inl ⟨_,rfl,hj⟩⟩
 ·have hpos:0<zs.length:=by cases zs with |nil=>exact absurd rfl hz|cons _ _=>simp
  obtain⟨b,off,rfl,hb,-⟩:=hcs 0 hpos;have hcs':∀j,j<zs.length->d2k W b (off+j * 9) (fOd.cells (zs[j]?.getD z).1 (Form.sv fOd (zs[j]?.getD z))):=fun j hj=>by
   obtain⟨b',off',e,_,c⟩:=hcs j hj;injection e with e;injection e with e1 e2 _;subst e1;subst e2;exact c
  refine(e2u z F n h7 hro hn l Bs n₀ b off zs.length cap zs hreach (fun _=>hb) J Jx (fun pre W1 o h=>hJ pre W1 _ none h (World.grownBy_alloc _ _ none) (fun r e=>by cases e)) hY W (jH hn₀ hW.size) hc' hcs' h0).mono ?_;rintro e W' ⟨he,⟨ys,rfl,hj⟩|⟨pre,⟨k,hk,rfl⟩,hj⟩⟩
  ·exact⟨he,.inl ⟨_,a1p _,hj⟩⟩
  ·exact⟨he,.inr ⟨_,by rw[a1p];exact a5l hk,hj⟩⟩
end
section
section
variable {P:Program} {ops:Array Oper} {Q:Exit->Act->World->Prop}
def d8v(ops:Array Oper):Bool:=ops.all fun o=>match o.op with | .defer _=>false|_=>true
theorem e2i(h:d8v ops=true){i:Nat}{o:Oper}(hi:ops[i]?=some o)(c:Call):o.op≠ .defer c:=by
 intro e;have hm:=Array.mem_of_getElem? hi;have:=(Array.all_eq_true_iff_forall_mem.1 h) o hm;rw[e] at this;cases this
theorem e2y(l n:Nat){o:Oper}{a:Act}{K:Act->World->Prop}(r:Result Next)(h:o.upon P a K Q r):o.uponIn (Fence.wide.inRound l) n P a K Q r:=by
 cases r with
 |ok x w=>
  cases x with
  |value v=>exact h
  |skip=>exact h
  |defer d=>exact h
  |enter f args=>exact⟨fun e=>(by cases e),CallsIn.inRound l (callsIn_wide.2 h)⟩
  |row r args=>exact⟨fun e=>(by cases e),fun c cs _=>let⟨v,w',r,s⟩:=h c cs;⟨v,w',r,stepsIn_wide.2 s⟩⟩
  |_=>exact(h:False).elim
 |halt x w=>
  cases x with
  |panic v=>exact h
  |_=>exact(h:False).elim
theorem e1g(l n:Nat){o:Oper}(ho:∀c,o.op≠ .defer c){a:Act}{w:World}{K:Act->World->Prop}(h:o.wp P a w K Q):o.wpIn (Fence.wide.inRound l) n P a w K Q:=by
 refine⟨fun _ _=>trivial,?_⟩;rw[Oper.semAt_plain _ _ _ ho];exact e2y l n _ h
theorem d5j(l n:Nat)(hd:d8v ops=true)(hl:¬LetsOut Q):∀(L:List Nat) (a:Act) (w:World),wpOps P ops Q L a w->wpOpsIn (Fence.wide.inRound l) n P ops Q L a w
 |[],_,_,h=>h
 |i::L,a,w,h=>by
  simp only[wpOps] at h;simp only[wpOpsIn];cases hi:ops[i]? with
  |none=>
   rw[hi] at h;exact d5j l n hd hl L a w h
  |some o=>
   rw[hi] at h;simp only at h⊢;split
   ·rename_i hw;rw[if_pos hw] at h;rcases h with h|h
    ·exact Oper.wpIn_mono (fun a w hk=>d5j l n hd hl L a w hk) (e1g l n (e2i hd hi) h)
    ·exact absurd h.2 hl
   ·rename_i hw;rw[if_neg hw] at h;exact⟨fun _ _=>trivial,d5j l n hd hl L _ w h⟩
theorem d3p{l n id:Nat}{a:Act}{w:World}(S:World->Prop)(s:Sc)(hm:P.follows .mixedOrders=true)(hs:jZ ops=true)(hB:scB ops ops.size s (kD ops.size false)=true)
  (hQ:∀(c:_) (a:Act) (d:Option Tmp) (v:Value) (w:World),Q (.panic c) (a.put d v) w->Q (.panic c) a w) (hd:d8v ops=true) (hl:∀a w,Q .outgrown a w->False) (hS:S w.drew) (h:∀wd,Hid (Bl w wd)->S wd->a2w P ops Q S s a wd):(Code.region id ops true).wpIn (Fence.wide.inRound l) n P Q a w:=
 wpIn_region_draw fun t=>by
  simp only[Region.schedule,hm,Bool.true_or,if_true];exact d5j l n hd (fun⟨a,w,h⟩=>hl a w h) _ a _ (wpAny_sound ops.size t _ a _ (wpAny_of_held _ _ _ _ (a5f hs hQ s _ _ a _ hB hS (h _ ((Bl.refl w).drew) hS))))
end
end
end Go.Proofs.YtfkekkgfmhcanaaGreatDoor
