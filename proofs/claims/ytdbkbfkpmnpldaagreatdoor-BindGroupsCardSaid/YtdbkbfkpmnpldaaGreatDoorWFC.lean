/- Texts beside the shared ones. -/
import Derived.Test.YtdbkbfkpmnpldaaGreatDoorWX0
import Derived.Test.YtdbkbfkpmnpldaaGreatDoorWFB
import Derived.Test.YtdbkbfkpmnpldaaGreatDoorWM6
namespace Go.Proofs.YtdbkbfkpmnpldaaGreatDoor
open Go.RowKit
open _root_.Bool renaming eq_iff_iff->kC,false_and->pK,true_and->rC
open _root_.Go.Lib renaming hid->aB
open _root_.List renaming getElem_mem->dS,mem_cons->dD
open _root_.Nat renaming le_refl->aH,zero_le->dL
open _root_.Go.Region renaming wanted->jG
set_option maxRecDepth 100000
set_option maxHeartbeats 16000000
section
theorem beq_sw{α:Type}[BEq α][LawfulBEq α](a b:α):(a==b)=(b==a):=by rw[kC,beq_iff_eq,beq_iff_eq];exact⟨Eq.symm,Eq.symm⟩
mutual
theorem sameD_comm:∀x y:Bd,sameD x y=sameD y x
 | .mk k t v p o n l,.mk k' t' v' p' o' n' l'=>by
  simp only[sameD];rw[samesD_comm l l',beq_sw k,beq_sw t,beq_sw v,beq_sw p,beq_sw o,beq_sw n]
theorem samesD_comm:∀l m:List Bd,samesD l m=samesD m l
 |[],[]=>rfl
 |[],_::_=>rfl
 |_::_,[]=>rfl
 |x::l,y::m=>by simp only[samesD];rw[sameD_comm x y,samesD_comm l m]
end
structure RiF(c d:Array Value)(W A:World):Prop where
 x:A.heap[W.heap.size]?=some (.cells c 30 (0,0))
 r:A.heap[W.heap.size+1]?=some (.cells d 30 (0,0))
 bl:Bl W A
theorem RiF.call{c d:Array Value}{W A B:World}(h:RiF c d W A)(hb:Bl A B):RiF c d W B:=⟨keep_b h.x hb,keep_b h.r hb,h.bl.call hb⟩
theorem RiF.start(c d:Array Value)(W:World):RiF c d W ((W.alloc (.cells c 30)).alloc (.cells d 30)):=
 ⟨keep_b (aN W _) ((Bl.refl _).alloc _),aV _ _ (by simp),((Bl.refl W).alloc _).alloc _⟩
theorem RiF.but{c d d':Array Value}{W A B:World}(h:RiF c d W A)(hb:But (W.heap.size+1) A B)(hx:B.heap[W.heap.size+1]?=some (.cells d' 30 (0,0))):RiF c d' W B:=⟨(hb.same _ (by omega)).trans h.x,hx,hb.bl h.bl (by omega)⟩
def Int2(v:Vl):Prop:=I64 v.1/\I64 v.2.1
mutual
def i64D:Bd->Prop
 | .mk _ _ v _ _ _ l=>Int2 v/\i64sD l
def i64sD:List Bd->Prop
 |[]=>True
 |x::r=>i64D x/\i64sD r
end
theorem i64sD_mem:∀{l:List Bd} {y:Bd},i64sD l->y∈l->i64D y
 |x::r,y,h,hy=>by
  rcases dD.1 hy with rfl|hy
  ·exact h.1
  ·exact i64sD_mem h.2 hy
theorem i64D_v{x:Bd}(h:i64D x):Int2 x.v:=by
 cases x;exact h.1
theorem i64D_args{x y:Bd}(h:i64D x)(hy:y∈x.args):i64D y:=by
 cases x;exact i64sD_mem h.2 hy
mutual
theorem i64D_ints:∀{x:Bd},i64D x->intsD x
 | .mk _ _ _ _ _ _ _,h=>⟨h.1.2,i64sD_ints h.2⟩
theorem i64sD_ints:∀{l:List Bd},i64sD l->intssD l
 |[],_=>trivial
 |_::_,h=>⟨i64D_ints h.1,i64sD_ints h.2⟩
end
theorem bare_parts(x:Bd):partsD (bareD x)=partsD x:=by
 obtain⟨k,t,v,p,o,n,l⟩:=x;simp only[bareD]
 repeat' split
 all_goals rfl
theorem rInt1:(Tryz.prog.info? 3).map (·.size)=some 1:=by kernel_rfl
theorem rStr1:(Tryz.prog.info? 9).map (·.size)=some 1:=by kernel_rfl
theorem rOp1:(Tryz.prog.info? 27).map (·.size)=some 1:=by kernel_rfl
def Four(n:List UInt8):Prop:=n=gX\/n=c1m\/n=c1n\/n=c1o
theorem names_ways(n:List UInt8):(Four n->gP.contains n=true)/\(¬Four n->gP.contains n=false):=by
 refine⟨fun h=>?_,fun h=>?_⟩
 ·rcases h with rfl|rfl|rfl|rfl<;>decide
 ·cases hc:gP.contains n
  ·rfl
  ·exfalso;apply h;have h2:n∈gP:=(by simpa using hc);simp only[gP,dD,List.not_mem_nil,or_false] at h2;exact h2
theorem wRight_step(c:Int)(x:Bd)(hx:partsD x<=1000000)(hi:i64D x)(IH0:∀y∈x.args,∀(W':World) (v:Value),ReadsD W' y v->Calls Tryz.prog 10 #[v,.int .i64 c] W' fun e w'=>e= .returned (.bool (rightD c y))/\Bl W' w')(W:World)(v:Value)(hv:ReadsD W x v):
  Calls Tryz.prog 10 #[v,.int .i64 c] W fun e w'=>e= .returned (.bool (rightD c x))/\Bl W w':=by
 have hiv:=i64D_v hi;have IH:=aB IH0;clear IH0;have HSM:Hid (∀(w:World) (v u:Value),ReadsD w x v->ReadsD w (bareD x) u->Calls Tryz.prog 14 #[v,u] w fun e w'=>e= .returned (.bool (sameD (bareD x) x))/\Bl w w'):=fun w v u hv hu=>by
  rw[sameD_comm];exact wSame_any 1000000 x (bareD x) (by omega) (aH _) w v u hv hu
 have HTY:Hid (∀(w:World) (v:Value),ReadsD w x v->Calls Tryz.prog 34 #[v] w fun e w'=>(∃s,v=BdV x.k x.t x.v x.p x.o x.n s/\e= .returned (.tuple #[BdV x.k (typeD x.k x.o x.t x.v x.n x.args).1 x.v x.p x.o x.n s,.int .i64 (typeD x.k x.o x.t x.v x.n x.args).2]))/\Bl w w'):=fun w v hv=>wtyped_any x (by omega) w v hv;have HPT:=aB (rightD_parts c x);obtain⟨R,HR⟩:∃R,Hid (rightD c x=R):=⟨_,rfl⟩
 have HOK:Hid (typeOK x=((typeD x.k x.o x.t x.v x.n x.args).1==x.t&&(typeD x.k x.o x.t x.v x.n x.args).2==0)):=by
  cases x;rfl
 rw[HR.o];rw[HR.o,HOK.o] at HPT;obtain⟨sv,rfl,hL⟩:=hv;obtain⟨a,cap,rfl,hc⟩:=hL.shape;have HC:=aB hc;have HL:=aB hL;have hlen:x.args.length<=1000000:=(by have:=partsD_len x;omega);have hya:=bare_args x;obtain⟨y,hy⟩:∃y,bareD x=y:=⟨_,rfl⟩
 rw[hy] at HSM HPT hya;have HY:=aB hy;clear hc hL hx hy HOK hi;obtain⟨k,t,⟨v1,v2,v3⟩,p,o,n,args⟩:=x;simp only[Bd.k,Bd.t,Bd.v,Bd.p,Bd.o,Bd.n,Bd.args] at *;generalize (typeD k o t (v1,v2,v3) n args).1=ty at *;generalize (typeD k o t (v1,v2,v3) n args).2=te at *;obtain⟨yk,yt,⟨y1,y2,y3⟩,yp,yo,yn,ya⟩:=y;simp only at hya;obtain⟨rfl,rfl,rfl⟩:=hya;obtain⟨b,hbd⟩:∃b,Hid (isD c (.mk yk yt (v1,v2,v3) p o n ya)=b):=⟨_,rfl⟩
 rw[hbd.o] at HPT;obtain⟨m,hm⟩:∃m,ya.length=m:=⟨_,rfl⟩
 have HM:=aB hm;rw[hm] at hlen⊢;have HF0:=aB (RiF.start (cellsB yk yt v1 v2 v3 p o n (.slice a m cap)) (cellsB yk yt 0 0 [] 0 0 [] (.slice a m cap)) W);clear hm;go_enter Tryz.func10,Tryz.ntmps10
 go_upto_block 0 with fail
 go_cut [] from 18 to 113 (fun wc=>b=true/\Hid (RiF (cellsB yk yt v1 v2 v3 p o n (.slice a m cap)) (cellsB yk yt y1 y2 y3 yp yo yn (.slice a m cap)) W wc))
 case first=>
  clear HSM HTY IH HC HL;obtain⟨e0,e1,e2,e3,e4,e5,e6,e7,e8⟩:=nine HF0.o.x;by_cases h1:yk=1
  ·have g1:(yk==1)=true:=by simpa using h1
   have HBE:Hid (b=(okVl (v1,v2,v3)&&((m:Int)==0))):=(by show _=_;rw[<-hbd.o,<-HM.o];simp only[isD,h1,if_true]);obtain⟨rfl,rfl,rfl,rfl,rfl,rfl⟩:v1=y1/\v2=y2/\v3=y3/\0=yp/\0=yo/\[]=yn:=by
    have e:=HY.o;rw[h1] at e;injection (show Bd.mk _ _ _ _ _ _ _=Bd.mk _ _ _ _ _ _ _ from e) with _ _ q1 q2 q3 q4 _;injection q1 with q1 q5;injection q5 with q5 q6;exact⟨q1,q5,q6,q2,q3,q4⟩
   have HRC:=aB (fun w=>tN v1 v2 v3 hiv.1.1 hiv.1.2 w);clear h1 hiv;go_wp2_with (refine bA (g:=W.heap.size+1) (i:=2) rfl rfl rfl rfl [.int .i64 yk,.int .i64 yt,.int .i64 v1,.int .i64 v2,S v3,.int .i64 0,.int .i64 0,S [],.slice a m cap] HF0.o.r rfl rfl vlInfo rfl ?_)
   intro w2 hB2 hX2;have HF2:=aB (HF0.o.but hB2 hX2);clear hB2 hX2 e0 e1 e2 e3 e4 e5 e6 e7 e8;obtain⟨e0,e1,e2,e3,e4,e5,e6,e7,e8⟩:=nine HF2.o.x;go_wp2_with fail;refine(HRC.o _).mono ?_;rintro e w3 ⟨rfl,hb3⟩;have HF3:=aB (HF2.o.call hb3);clear hb3 e0 e1 e2 e3 e4 e5 e6 e7 e8;obtain⟨-,-,-,-,-,-,-,-,e8⟩:=nine HF3.o.x;by_cases hck:chk v1 v2 v3=0
   ·rw[hck];have hok:okVl (v1,v2,v3)=true:=(by simp[okVl,hck]);rw[hok,rC] at HBE;clear hok hck;cases hz:((m:Int)==0)
    ·have gz:((m:Int) != 0)=true:=by simp only[bne,hz];rfl
     rw[hz] at HBE;clear hz;go_wp2;go_ret;exact⟨by rw[HPT.o,HBE.o]<;>rfl,(HF3.o).bl⟩
    ·have gz:((m:Int) != 0)=false:=by simp only[bne,hz];rfl
     rw[hz] at HBE;clear hz;go_wp2
     go_meet
     case rel=>exact⟨HBE.o,HF3.o⟩
   ·have hok:okVl (v1,v2,v3)=false:=by simp[okVl,hck]
    rw[hok,pK] at HBE;have gq:(chk v1 v2 v3 != 0)=true:=(by simpa using hck);clear hok hck;go_wp2;go_ret;exact⟨by rw[HPT.o,HBE.o]<;>rfl,(HF3.o).bl⟩
  have g1:(yk==1)=false:=(by simpa using h1);by_cases h2:yk=2
  ·have g2:(yk==2)=true:=by simpa using h2
   have HBE:Hid (b=(decide (0<=p)&&(decide (p<c)&&(decide (1<=yt)&&(decide (yt<=4)&&((m:Int)==0)))))):=(by show _=_;rw[<-hbd.o,<-HM.o];simp only[isD,h2,if_true,show((2:Int)=1)=False from by simp,if_false]);obtain⟨rfl,rfl,rfl,rfl,rfl,rfl⟩:0=y1/\0=y2/\[]=y3/\p=yp/\0=yo/\[]=yn:=by
    have e:=HY.o;rw[h2] at e;injection (show Bd.mk _ _ _ _ _ _ _=Bd.mk _ _ _ _ _ _ _ from e) with _ _ q1 q2 q3 q4 _;injection q1 with q1 q5;injection q5 with q5 q6;exact⟨q1,q5,q6,q2,q3,q4⟩
   clear h1 h2 hiv;go_wp2_with (refine bA (g:=W.heap.size+1) (i:=5) rfl rfl rfl rfl [.int .i64 yk,.int .i64 yt,.int .i64 0,.int .i64 0,S [],.int .i64 p,.int .i64 0,S [],.slice a m cap] HF0.o.r rfl rfl rInt1 rfl ?_)
   intro w2 hB2 hX2;have HF2:=aB (HF0.o.but hB2 hX2);clear hB2 hX2 e0 e1 e2 e3 e4 e5 e6 e7 e8;obtain⟨e0,e1,e2,e3,e4,e5,e6,e7,e8⟩:=nine HF2.o.x;clear e0 e1 e2 e3 e4 e5 e6 e7 e8;obtain⟨e0,e1,e2,e3,e4,e5,e6,e7,e8⟩:=nine HF2.o.x;by_cases p0:p<0
   ·rw[decide_eq_false (show ¬0<=p by omega),pK] at HBE;go_wp2;go_ret;exact⟨by rw[HPT.o,HBE.o]<;>rfl,(HF2.o).bl⟩
   rw[decide_eq_true (show 0<=p by omega),rC] at HBE;by_cases pc:c<=p
   ·rw[decide_eq_false (show ¬p<c by omega),pK] at HBE;go_wp2;go_ret;exact⟨by rw[HPT.o,HBE.o]<;>rfl,(HF2.o).bl⟩
   rw[decide_eq_true (show p<c by omega),rC] at HBE;by_cases t1:yt<1
   ·rw[decide_eq_false (show ¬1<=yt by omega),pK] at HBE;go_wp2;go_ret;exact⟨by rw[HPT.o,HBE.o]<;>rfl,(HF2.o).bl⟩
   rw[decide_eq_true (show 1<=yt by omega),rC] at HBE;by_cases t4:4<yt
   ·rw[decide_eq_false (show ¬yt<=4 by omega),pK] at HBE;go_wp2;go_ret;exact⟨by rw[HPT.o,HBE.o]<;>rfl,(HF2.o).bl⟩
   rw[decide_eq_true (show yt<=4 by omega),rC] at HBE;cases hz:((m:Int)==0)
   ·have gz:((m:Int) != 0)=true:=by simp only[bne,hz];rfl
    rw[hz] at HBE;clear hz;go_wp2;go_ret;exact⟨by rw[HPT.o,HBE.o]<;>rfl,(HF2.o).bl⟩
   ·have gz:((m:Int) != 0)=false:=by simp only[bne,hz];rfl
    rw[hz] at HBE;clear hz;go_wp2
    go_meet
    case rel=>exact⟨HBE.o,HF2.o⟩
  have g2:(yk==2)=false:=(by simpa using h2);by_cases h3:yk=3
  ·have g3:(yk==3)=true:=by simpa using h3
   have HBE:Hid (b=true):=(by show _=_;rw[<-hbd.o];simp only[isD,h3,if_true,show((3:Int)=1)=False from by simp,show((3:Int)=2)=False from by simp,if_false]);obtain⟨rfl,rfl,rfl,rfl,rfl,rfl⟩:0=y1/\0=y2/\[]=y3/\0=yp/\o=yo/\[]=yn:=by
    have e:=HY.o;rw[h3] at e;injection (show Bd.mk _ _ _ _ _ _ _=Bd.mk _ _ _ _ _ _ _ from e) with _ _ q1 q2 q3 q4 _;injection q1 with q1 q5;injection q5 with q5 q6;exact⟨q1,q5,q6,q2,q3,q4⟩
   clear h1 h2 h3 hiv;go_wp2_with (refine bA (g:=W.heap.size+1) (i:=6) rfl rfl rfl rfl [.int .i64 yk,.int .i64 yt,.int .i64 0,.int .i64 0,S [],.int .i64 0,.int .i64 o,S [],.slice a m cap] HF0.o.r rfl rfl rOp1 rfl ?_)
   intro w2 hB2 hX2;have HF2:=aB (HF0.o.but hB2 hX2);clear hB2 hX2 e0 e1 e2 e3 e4 e5 e6 e7 e8;obtain⟨e0,e1,e2,e3,e4,e5,e6,e7,e8⟩:=nine HF2.o.x;go_wp2
   go_meet
   case rel=>exact⟨HBE.o,HF2.o⟩
  have g3:(yk==3)=false:=(by simpa using h3);by_cases h4:yk=4
  ·have g4:(yk==4)=true:=by simpa using h4
   have HBE:Hid (b=decide ((0:Int)<m)):=(by show _=_;rw[<-hbd.o,<-HM.o];simp only[isD,h4,if_true,show((4:Int)=1)=False from by simp,show((4:Int)=2)=False from by simp,show((4:Int)=3)=False from by simp,if_false]);obtain⟨rfl,rfl,rfl,rfl,rfl,rfl⟩:0=y1/\0=y2/\[]=y3/\0=yp/\0=yo/\[]=yn:=by
    have e:=HY.o;rw[h4] at e;injection (show Bd.mk _ _ _ _ _ _ _=Bd.mk _ _ _ _ _ _ _ from e) with _ _ q1 q2 q3 q4 _;injection q1 with q1 q5;injection q5 with q5 q6;exact⟨q1,q5,q6,q2,q3,q4⟩
   clear h1 h2 h3 h4 hiv;have HF2:=HF0;by_cases hz:m=0
   ·rw[decide_eq_false (show ¬(0:Int)<m by omega)] at HBE;have gz:((m:Int)==0)=true:=(by simpa using hz);clear hz;go_wp2;go_ret;exact⟨by rw[HPT.o,HBE.o]<;>rfl,(HF2.o).bl⟩
   ·rw[decide_eq_true (show(0:Int)<m by omega)] at HBE;have gz:((m:Int)==0)=false:=(by simpa using hz);clear hz;go_wp2
    go_meet
    case rel=>exact⟨HBE.o,HF2.o⟩
  have g4:(yk==4)=false:=(by simpa using h4);by_cases h5:yk=5
  ·have g5:(yk==5)=true:=by simpa using h5
   have HBE:Hid (b=(gP.contains n&&(decide ((m:Int)<=1)&&(((m:Int)==1)||n==gX)))):=(by show _=_;rw[<-hbd.o,<-HM.o];simp only[isD,h5,if_true,show((5:Int)=1)=False from by simp,show((5:Int)=2)=False from by simp,show((5:Int)=3)=False from by simp,show((5:Int)=4)=False from by simp,if_false]);obtain⟨rfl,rfl,rfl,rfl,rfl,rfl⟩:0=y1/\0=y2/\[]=y3/\0=yp/\0=yo/\n=yn:=by
    have e:=HY.o;rw[h5] at e;injection (show Bd.mk _ _ _ _ _ _ _=Bd.mk _ _ _ _ _ _ _ from e) with _ _ q1 q2 q3 q4 _;injection q1 with q1 q5;injection q5 with q5 q6;exact⟨q1,q5,q6,q2,q3,q4⟩
   clear h1 h2 h3 h4 h5 hiv;go_wp2_with (refine bA (g:=W.heap.size+1) (i:=7) rfl rfl rfl rfl [.int .i64 yk,.int .i64 yt,.int .i64 0,.int .i64 0,S [],.int .i64 0,.int .i64 0,S n,.slice a m cap] HF0.o.r rfl rfl rStr1 rfl ?_)
   intro w2 hB2 hX2;have HF2:=aB (HF0.o.but hB2 hX2);clear hB2 hX2 e0 e1 e2 e3 e4 e5 e6 e7 e8;obtain⟨e0,e1,e2,e3,e4,e5,e6,e7,e8⟩:=nine HF2.o.x;clear e0 e1 e2 e3 e4 e5 e6 e7 e8;obtain⟨e0,e1,e2,e3,e4,e5,e6,e7,e8⟩:=nine HF2.o.x;have HNW:=aB (names_ways n);by_cases n1:n=gX
   ·rw[HNW.o.1 (.inl n1),show(n==gX)=true from by simpa using n1,Bool.or_true,Bool.and_true,rC] at HBE;have n9:n=[99,111,117,110,116]:=n1;clear n1;subst n9;by_cases hm1:(m:Int)<=1
    ·have hm2:¬(1:Int)<m:=by omega
     rw[decide_eq_true hm1] at HBE;clear hm1;cases hz:((m:Int)==0)
     ·skip
      go_wp2
      go_meet
      case rel=>exact⟨HBE.o,HF2.o⟩
     ·skip
      go_wp2
      go_meet
      case rel=>exact⟨HBE.o,HF2.o⟩
    ·have hm2:(1:Int)<m:=by omega
     rw[decide_eq_false hm1] at HBE;clear hm1;go_wp2;go_ret;exact⟨by rw[HPT.o,HBE.o]<;>rfl,(HF2.o).bl⟩
   have q1:(n != [99,111,117,110,116])=true:=(by simpa[gX] using n1);rw[show(n==gX)=false from by simpa using n1,Bool.or_false] at HBE;by_cases n2:n=c1m
   ·have n9:n=[115,117,109]:=n2;rw[HNW.o.1 (.inr (.inl n2)),rC] at HBE;clear n1 n2 q1;subst n9;by_cases hm1:(m:Int)<=1
    ·have hm2:¬(1:Int)<m:=by omega
     rw[decide_eq_true hm1,rC] at HBE;by_cases hz:(m:Int)=0
     ·have gz:((m:Int)==0)=true:=by simpa using hz
      rw[show((m:Int)==1)=false from by rw[hz];rfl] at HBE;clear hm1 hz;go_wp2;go_ret;exact⟨by rw[HPT.o,HBE.o]<;>rfl,(HF2.o).bl⟩
     ·have gz:((m:Int)==0)=false:=by simpa using hz
      rw[show((m:Int)==1)=true from by rw[show(m:Int)=1 by omega];rfl] at HBE;clear hm1 hz;go_wp2
      go_meet
      case rel=>exact⟨HBE.o,HF2.o⟩
    ·have hm2:(1:Int)<m:=by omega
     rw[decide_eq_false hm1,pK] at HBE;clear hm1;go_wp2;go_ret;exact⟨by rw[HPT.o,HBE.o]<;>rfl,(HF2.o).bl⟩
   have q2:(n != [115,117,109])=true:=(by simpa[c1m] using n2);by_cases n3:n=c1n
   ·have n9:n=[109,105,110]:=n3;rw[HNW.o.1 (.inr (.inr (.inl n3))),rC] at HBE;clear n1 n2 n3 q1 q2;subst n9;by_cases hm1:(m:Int)<=1
    ·have hm2:¬(1:Int)<m:=by omega
     rw[decide_eq_true hm1,rC] at HBE;by_cases hz:(m:Int)=0
     ·have gz:((m:Int)==0)=true:=by simpa using hz
      rw[show((m:Int)==1)=false from by rw[hz];rfl] at HBE;clear hm1 hz;go_wp2;go_ret;exact⟨by rw[HPT.o,HBE.o]<;>rfl,(HF2.o).bl⟩
     ·have gz:((m:Int)==0)=false:=by simpa using hz
      rw[show((m:Int)==1)=true from by rw[show(m:Int)=1 by omega];rfl] at HBE;clear hm1 hz;go_wp2
      go_meet
      case rel=>exact⟨HBE.o,HF2.o⟩
    ·have hm2:(1:Int)<m:=by omega
     rw[decide_eq_false hm1,pK] at HBE;clear hm1;go_wp2;go_ret;exact⟨by rw[HPT.o,HBE.o]<;>rfl,(HF2.o).bl⟩
   have q3:(n != [109,105,110])=true:=(by simpa[c1n] using n3);by_cases n4:n=c1o
   ·have n9:n=[109,97,120]:=n4;rw[HNW.o.1 (.inr (.inr (.inr n4))),rC] at HBE;clear n1 n2 n3 n4 q1 q2 q3;subst n9;by_cases hm1:(m:Int)<=1
    ·have hm2:¬(1:Int)<m:=by omega
     rw[decide_eq_true hm1,rC] at HBE;by_cases hz:(m:Int)=0
     ·have gz:((m:Int)==0)=true:=by simpa using hz
      rw[show((m:Int)==1)=false from by rw[hz];rfl] at HBE;clear hm1 hz;go_wp2;go_ret;exact⟨by rw[HPT.o,HBE.o]<;>rfl,(HF2.o).bl⟩
     ·have gz:((m:Int)==0)=false:=by simpa using hz
      rw[show((m:Int)==1)=true from by rw[show(m:Int)=1 by omega];rfl] at HBE;clear hm1 hz;go_wp2
      go_meet
      case rel=>exact⟨HBE.o,HF2.o⟩
    ·have hm2:(1:Int)<m:=by omega
     rw[decide_eq_false hm1,pK] at HBE;clear hm1;go_wp2;go_ret;exact⟨by rw[HPT.o,HBE.o]<;>rfl,(HF2.o).bl⟩
   have q4:(n != [109,97,120])=true:=(by simpa[c1o] using n4);rw[HNW.o.2 (fun h=>by rcases h with h|h|h|h;exact n1 h;exact n2 h;exact n3 h;exact n4 h),pK] at HBE;have w1':¬n=[99,111,117,110,116]:=n1;have w2':¬n=[115,117,109]:=n2;have w3':¬n=[109,105,110]:=n3;have w4':¬n=[109,97,120]:=n4;have z1:(n==[99,111,117,110,116])=false:=(by simpa using w1');have z2:(n==[115,117,109])=false:=(by simpa using w2');have z3:(n==[109,105,110])=false:=(by simpa using w3');have z4:(n==[109,97,120])=false:=(by simpa using w4');clear n1 n2 n3 n4;go_wp2;go_ret;exact⟨by rw[HPT.o,HBE.o]<;>rfl,(HF2.o).bl⟩
  have g5:(yk==5)=false:=(by simpa using h5);have HBE:Hid (b=false):=(by show _=_;rw[<-hbd.o];simp only[isD,h1,h2,h3,h4,h5,if_false]);clear h1 h2 h3 h4 h5 hiv;go_wp2;go_ret;exact⟨by rw[HPT.o,HBE.o]<;>rfl,(HF0.o).bl⟩
 case rest=>
 clear HF0;obtain⟨rfl,HF⟩:=hcut;rw[rC] at HPT;go_wp2_with fail;go_loopw [6] (fun i wr=>∃j:Nat,j<=m/\i= .int .i64 (j:Int)/\Hid (rightsD c ya=rightsD c (ya.drop j))/\Hid (RiF (cellsB yk yt v1 v2 v3 p o n (.slice a m cap)) (cellsB yk yt y1 y2 y3 yp yo yn (.slice a m cap)) W wr)) (fun i _=>m-(intOf i).toNat)
 case atStart=>exact⟨0,dL _,rfl,by simp[Hid],HF.o⟩
 case round=>
  clear HF;obtain⟨j,hj,rfl,HD,HF⟩:=hrel;obtain⟨c0,c1,c2,c3,c4,c5,c6,c7,c8⟩:=nine HF.o.x;by_cases hlt:j<m
  ·obtain⟨b,off,s,rfl,-,hbl,h8,hr⟩:=HC.o j (by rw[HM.o];exact hlt);have HY:=aB (IH.o _ (dS (by rw[HM.o];exact hlt:j<ya.length)));have HDj:=aB (HD.o.trans (rightsD_drop (by rw[HM.o];exact hlt)));have HRD:=aB (hr.bl HF.o.bl);obtain⟨e0,e1,e2,e3,e4,e5,e6,e7,e8⟩:=(h8.keep (HF.o.bl.block b hbl)).nine;clear h8 hr;generalize hy:ya[j]'(by rw[HM.o];exact hlt)=y at *;clear hy;obtain⟨k',t',⟨v1',v2',v3'⟩,pt',o',nm',args'⟩:=y;simp only[Bd.k,Bd.t,Bd.v,Bd.p,Bd.o,Bd.n] at e0 e1 e2 e3 e4 e5 e6 e7;have HRE:=aB (show ReadsD wr (.mk k' t' (v1',v2',v3') pt' o' nm' args') (BdV k' t' (v1',v2',v3') pt' o' nm' s) from⟨s,rfl,HRD.o⟩);have hlt':(j:Int)<(m:Int):=(by omega);clear HC HSM HTY;go_wp2_with fail;refine(HY.o _ _ HRE.o).mono ?_;rintro e w1 ⟨rfl,hb1⟩;have HF1:=aB (HF.o.call hb1);clear hb1 e0 e1 e2 e3 e4 e5 e6 e7 e8 c8;cases hs:rightD c (.mk k' t' (v1',v2',v3') pt' o' nm' args')
   ·have HN:=aB (HDj.o.trans (by rw[hs];rfl):rightsD c ya=false);clear hs;go_wp2;go_ret;exact⟨by rw[show R=false from by rw[HPT.o,HN.o,Bool.and_false,pK]]<;>rfl,HF1.o.bl⟩
   ·have HN:=aB (HDj.o.trans (by rw[hs];rfl):rightsD c ya=rightsD c (ya.drop (j+1)));clear hs;go_wp2;go_roundw
    case rel=>exact⟨j+1,by omega,by go_num,HN.o,HF1.o⟩
    case measure=>simp[intOf];omega
  ·obtain rfl:m=j:=by omega
   have HN:=aB (HD.o.trans (by rw[List.drop_of_length_le (by rw[HM.o];exact aH _)];rfl):rightsD c ya=true);have hge:¬((m:Int)<(m:Int)):=(by omega);have HT1:=aB (HTY.o wr (BdV yk yt (v1,v2,v3) p o n (.slice a m cap)) ⟨_,rfl,by have h:=HL.o.bl HF.o.bl;rw[HM.o] at h;exact h⟩);rw[HN.o,Bool.and_true] at HPT;clear IH HC HTY HD;go_wp2_with fail;refine HT1.o.mono ?_;rintro e w1 ⟨⟨s,hs,rfl⟩,hb1⟩;obtain rfl:Value.slice a m cap=s:=(by simpa using hs);have HF1:=aB ((HF.o.call hb1).call ((Bl.refl w1).alloc (.cells (cellsB yk ty v1 v2 v3 p o n (.slice a m cap)) 30)));have HX1:=aB (aN w1 (.cells (cellsB yk ty v1 v2 v3 p o n (.slice a m cap)) 30));obtain⟨f0,f1,f2,f3,f4,f5,f6,f7,f8⟩:=nine HF1.o.x;obtain⟨g0,g1,g2,g3,g4,g5,g6,g7,g8⟩:=nine HX1.o;clear hb1 hs c0 c1 c2 c3 c4 c5 c6 c7 c8;by_cases he:te=0
   ·have q1:(te==0)=true:=by simpa using he
    by_cases ht:ty=yt
    ·have q2:(ty==yt)=true:=by simpa using ht
     rw[q1,q2,Bool.and_self,Bool.and_true] at HPT;have HS1:=aB (HSM.o (w1.alloc (.cells (cellsB yk ty v1 v2 v3 p o n (.slice a m cap)) 30)) (BdV yk yt (v1,v2,v3) p o n (.slice a m cap)) (BdV yk yt (y1,y2,y3) yp yo yn (.slice a m cap)) ⟨_,rfl,by have h:=HL.o.bl HF1.o.bl;rw[HM.o] at h;exact h⟩ ⟨_,rfl,by have h:=HL.o.bl HF1.o.bl;rw[HM.o] at h;exact h⟩);clear he ht f0 f2 f3 f4 f5 f6 f7 f8 g0 g2 g3 g4 g5 g6 g7 g8 HSM;go_wp2_with (first |(refine wpList_load_rowG (by first |rfl|(simp[jG,yielded];done)) 30 (.tmp 2) rfl W.heap.size rfl 30 _ (0,0) _ HF1.o.x Tryz.underlying30 rfl bdInfo ?_)|(refine wpList_load_rowG (by first |rfl|(simp[jG,yielded];done)) 30 (.tmp 5) rfl (W.heap.size+1) rfl 30 _ (0,0) _ HF1.o.r Tryz.underlying30 rfl bdInfo ?_))
     refine HS1.o.mono ?_;rintro e w2 ⟨rfl,hb2⟩;go_wp2;go_ret;exact⟨by rw[HPT.o]<;>rfl,HF1.o.bl.call hb2⟩
    ·have q2:(ty==yt)=false:=by simpa using ht
     rw[q2,pK,Bool.and_false] at HPT;clear he ht f0 f2 f3 f4 f5 f6 f7 f8 g0 g2 g3 g4 g5 g6 g7 g8;go_wp2;go_ret;exact⟨by rw[HPT.o]<;>rfl,HF1.o.bl⟩
   ·clear f0 f1 f2 f3 f4 f5 f6 f7 f8 g0 g1 g2 g3 g4 g5 g6 g7 g8;have q1:(te==0)=false:=(by simpa using he);rw[q1,Bool.and_false,Bool.and_false] at HPT;clear he;go_wp2;go_ret;exact⟨by rw[HPT.o]<;>rfl,HF1.o.bl⟩
theorem wRight_any(c:Int):∀(N:Nat) (x:Bd),partsD x<=N->N<=1000000->i64D x->∀(W:World) (v:Value),ReadsD W x v->Calls Tryz.prog 10 #[v,.int .i64 c] W fun e w'=>e= .returned (.bool (rightD c x))/\Bl W w'
 |0,x,h,_,_,_,_,_=>by have:=partsD_pos x;omega
 |N+1,x,hx,hN,hi,W,v,hv=>wRight_step c x (by omega) hi (fun y hy W' v hv=>wRight_any c N y (by have:=partsD_arg hy;omega) (by omega) (i64D_args hi hy) W' v hv) W v hv
end
end Go.Proofs.YtdbkbfkpmnpldaaGreatDoor
