/- Texts MU MS ME MX MQ X1 MH MC0 EC MA MK0. -/
import Derived.Test.YtkimpcmkminffaaGreatDoorNB
import Derived.Deep.QuietTactic
import Derived.BigQuiet
import Derived.BigRegion
import Derived.RegionTactic
import Derived.Test.YtkimpcmkminffaaGreatDoorNA
import Derived.RangeFuncNested
import Derived.RangeFuncBound
import Derived.RangeFuncCalls
import Derived.RangeFuncLeaves
import Derived.Shelf.Abstract
import Derived.Shelf.RegionOpen
import Derived.OwnWalkIn
import Derived.TacticsInMore
import Derived.LoopNIn
import Derived.LoopIn
import Derived.RangeFuncBox
import Derived.Defers
import Derived.Recover
import Derived.Maps.AppendAt
import Derived.Deep.CutBlock
namespace Go.Proofs.YtkimpcmkminffaaGreatDoor
open _root_.Go.Proofs.Tryz
open Go.RowKit
open Go.RowKit Go.Shelf
open _root_.Go.Addr renaming add->dY
open _root_.Array renaming ext'->nU,getElem?_eq_some_iff->aC,getElem?_modify->dC,replicate->kD,replicate_succ->eX,replicate_zero->eU
open _root_.Go.RowKit.Below renaming grown->iL,heap_setCell->fA,refl->bS
open _root_.Bool renaming eq_iff_iff->kC
open IntWalk renaming i64_in->gW
open _root_.Go.Lib renaming cell_of_heap->aG,frozen_of_heap->aJ,hasPrefix->aS,hid->aB
open _root_.List renaming append_toArray->fD,cons_append->bE,drop_drop->iI,drop_eq_getElem_cons->aZ,drop_length->dO,drop_zero->oC,ext_getElem->kX,getD_eq_getElem?_getD->lY,getElem?_drop->iE,getElem?_eq_getElem->aP,getElem?_eq_some_iff->aO,getElem?_map->iJ,getElem_cons_zero->jB,getElem_mem->dS,head?_drop->fQ,length->lV,length_cons->aX,length_nil->bL,length_pos_iff->qH,mem_cons->dD,nil_append->cB,push_toArray->gH,range->iU,size_toArray->gG,take_add_one->dN
open _root_.Nat renaming le_refl->aH,le_trans->jH,lt_of_lt_of_le->gK,zero_add->gD,zero_le->dL
open _root_.Go.Oper renaming semAt_some->nC
open _root_.Option renaming map_eq_some_iff->aT
open _root_.Go.Region renaming noSelect->jZ
open _root_.Go.World renaming alloc->aY,block_lt_of_cell?->bB,cell?_of_block->jV,setCell->dX,setRow_alloc_new->lD,size_alloc->aR
set_option maxRecDepth 100000
set_option maxHeartbeats 16000000
section
theorem a8c(c:UInt8):cZ c=(decide (97<=(c.toNat:Int))&&decide ((c.toNat:Int)<=122)||((c.toNat:Int)==95)):=by
 have h:(c==95)=((c.toNat:Int)==95):=by
  rw[kC];simp only[beq_iff_eq];constructor
  ·rintro rfl;rfl
  ·intro e;exact UInt8.toNat_inj.1 (Int.ofNat_inj.1 e)
 unfold cZ;rw[h,kC];simp[UInt8.le_iff_toNat_le];omega
theorem b3a(c:UInt8):dI c=(decide (48<=(c.toNat:Int))&&decide ((c.toNat:Int)<=57)):=by
 unfold dI;rw[kC];simp[UInt8.le_iff_toNat_le];omega
theorem iQ(c:UInt8)(w:World):cL 138 #[.int .u8 c.toNat] w fun e w'=>e= .returned (.bool (cZ c))/\w=w':=by
 have HL:=aB (a8c c);go_enter func138,ntmps138;go_wp2
 all_goals
  go_ret;exact⟨nX (by rw[HL.o];first |(simp[*];done)|(simp[*];intros;omega)),rfl⟩
theorem kH(c:UInt8)(w:World):cL 140 #[.int .u8 c.toNat] w fun e w'=>e= .returned (.bool (dI c))/\w=w':=by
 have HL:=aB (b3a c);go_enter func140,ntmps140;go_wp2
 all_goals
  go_ret;exact⟨nX (by rw[HL.o];first |(simp[*];done)|(simp[*];intros;omega)),rfl⟩
theorem mY{c k:UInt8}(h:c≠k){m:Int}(hm:(k.toNat:Int)=m):((c.toNat:Int)==m)=false:=by
 rw[beq_eq_false_iff_ne,<-hm];intro e;exact h (UInt8.toNat_inj.1 (Int.ofNat_inj.1 e))
theorem b7n{c k:UInt8}(h:c≠k){m:Int}(hm:(k.toNat:Int)=m):((c.toNat:Int) != m)=true:=by
 unfold bne;rw[mY h hm];rfl
def wdB(b:Bool):UInt8->Bool:=if b then jP else dI
theorem a9e(b:Bool)(c:UInt8):wdB b c=(dI c||(b&&cZ c)):=by
 cases b
 ·simp[wdB]
 ·simp[wdB,jP,Bool.or_comm]
theorem a9s(b:Bool)(l:List UInt8)(k:Nat)(hk:k<=l.length)(hl:l.length<=1000000)(w:World):cL 139 #[S l,.int .i64 k,.bool b] w fun e w'=>e= .returned (.int .i64 ((k+jJ (wdB b) (l.drop k):Nat):Int))/\w=w':=by
 go_enter func139,ntmps139;go_wp2_with fail
 go_loop [1] (fun i=>∃j:Nat,k<=j/\j<=l.length/\i= .int .i64 j/\Hid (∀c∈(l.drop k).take (j-k),wdB b c=true)) (fun i=>l.length-(intOf i).toNat)
 case atStart=>exact⟨k,by omega,hk,rfl,fun c hc=>by simp at hc⟩
 case round=>
  obtain⟨j,hj1,hj2,rfl,HT⟩:=hrel;have hfin:Stops (wdB b) (l.drop j)->j=k+jJ (wdB b) (l.drop k):=fun hs=>by
   have:=a7o (l:=l.drop k) (i:=j-k) HT.o (by rw[iI,show k+(j-k)=j by omega];exact hs) ab;omega
  have HF:=aB hfin;clear hfin;by_cases hlt:j<l.length
  ·have g1:=aB (fK l j aq);generalize hc1:(⟨l.toArray⟩:ByteArray)[j]' aq=c at *;cases hd:dI c
   ·cases b
    ·have HS:Hid (Stops (wdB false) (l.drop j)):=by
      intro a ha;rw[fQ,g1.o] at ha;injection ha with ha;rw[<-ha,a9e,hd];rfl
     go_wp2_with (first
      |(go_at_call 140;(with_reducible refine(kH c _).mono ?_);rintro e w' ⟨rfl,rfl⟩;rw[hd])
      |(go_at_call 138;(with_reducible refine(iQ c _).mono ?_);rintro e w' ⟨rfl,rfl⟩))
     go_ret;exact⟨lI (by have:=HF.o HS.o;omega),rfl⟩
    ·cases hlet:cZ c
     ·have HS:Hid (Stops (wdB true) (l.drop j)):=by
       intro a ha;rw[fQ,g1.o] at ha;injection ha with ha;rw[<-ha,a9e,hd,hlet];rfl
      go_wp2_with (first
       |(go_at_call 140;(with_reducible refine(kH c _).mono ?_);rintro e w' ⟨rfl,rfl⟩;rw[hd])
       |(go_at_call 138;(with_reducible refine(iQ c _).mono ?_);rintro e w' ⟨rfl,rfl⟩;rw[hlet]))
      go_ret;exact⟨lI (by have:=HF.o HS.o;omega),rfl⟩
     ·have HP:Hid (wdB true c=true):=by show wdB true c=true;rw[a9e,hd,hlet];rfl
      go_wp2_with (first
       |(go_at_call 140;(with_reducible refine(kH c _).mono ?_);rintro e w' ⟨rfl,rfl⟩;rw[hd])
       |(go_at_call 138;(with_reducible refine(iQ c _).mono ?_);rintro e w' ⟨rfl,rfl⟩;rw[hlet]))
      go_round
      case rel=>
       refine⟨j+1,by omega,by omega,by go_num,fun a ha=>?_⟩;rw[show j+1-k=(j-k)+1 by omega,dN,iE,show k+(j-k)=j by omega,g1.o] at ha;simp at ha;rcases ha with ha|rfl
       ·exact HT.o a ha
       ·exact HP.o
      case measure=>simp[intOf];omega
   ·have HP:Hid (wdB b c=true):=by show wdB b c=true;rw[a9e,hd];rfl
    go_wp2_with (first
     |(go_at_call 140;(with_reducible refine(kH c _).mono ?_);rintro e w' ⟨rfl,rfl⟩;rw[hd])
     |(go_at_call 138;(with_reducible refine(iQ c _).mono ?_);rintro e w' ⟨rfl,rfl⟩))
    go_round
    case rel=>
     refine⟨j+1,by omega,by omega,by go_num,fun a ha=>?_⟩;rw[show j+1-k=(j-k)+1 by omega,dN,iE,show k+(j-k)=j by omega,g1.o] at ha;simp at ha;rcases ha with ha|rfl
     ·exact HT.o a ha
     ·exact HP.o
    case measure=>simp[intOf];omega
  ·obtain rfl:j=l.length:=by omega
   have HS:Hid (Stops (wdB b) (l.drop l.length)):=(by intro a ha;simp at ha);go_wp2_with fail;go_ret;exact⟨lI (by have:=HF.o HS.o;omega),rfl⟩
def a7p(l:List UInt8)(n:Nat):Int:=match oO (l.drop n) with
 |some k=>((n+k:Nat):Int)
 |none=> -1
theorem QAt.rdone{l:List UInt8}{n i:Nat}(h:QAt l n i)(hi:i<l.length)(hc:l[i]=39)(hd:(l.drop (i+1)).head?≠some 39):a7p l n=(i:Int)+1:=by
 have:oO (l.drop n)=some (1+(i-n)):=(by rw[h.2.2,aZ hi,hc,uU hd];rfl);unfold a7p;rw[this];have:=h.1;simp only;omega
theorem QAt.rnone{l:List UInt8}{n:Nat}(h:QAt l n l.length):a7p l n= -1:=by
 have:oO (l.drop n)=Option.none:=(by rw[h.2.2];simp[oO]);unfold a7p;rw[this]
theorem xY(l:List UInt8)(n:Nat)(hn:n<l.length)(hl:l.length<=1000000)(w:World):cL 141 #[S l,.int .i64 n] w fun e w'=>e= .returned (.int .i64 (a7p l (n+1)))/\w=w':=by
 go_enter func141,ntmps141;go_wp2_with fail
 go_loop [5] (fun i=>∃k:Nat,k<=l.length/\i= .int .i64 k/\Hid (QAt l (n+1) k)) (fun i=>l.length-(intOf i).toNat)
 case atStart=>exact⟨n+1,hn,by go_num,⟨aH _,hn,by simp⟩⟩
 case round=>
  obtain⟨k,hk,rfl,HQ⟩:=hrel;by_cases hlt:k<l.length
  ·have g1:=aB (fK l k aq);generalize hc1:(⟨l.toArray⟩:ByteArray)[k]' aq=c at *;have HC:Hid (l[k]=c):=(yC g1.o).symm;by_cases hc:c=39
   ·have hcb:((c.toNat:Int) != 39)=false:=by rw[hc];rfl
    by_cases hk1:k+1<l.length
    ·have g2:=aB (fK l (k+1) (by rw[size_of_list];exact hk1));generalize hc2:(⟨l.toArray⟩:ByteArray)[k+1]'(by rw[size_of_list];exact hk1)=d at *;have HD:Hid (l[k+1]=d):=(yC g2.o).symm;have x3:((k:Int)+1).toNat=k+1:=aE;by_cases hd:d=39
     ·have hdb:((d.toNat:Int)==39)=true:=by rw[hd];rfl
      have HC':=aB hc;have HD':=aB hd;clear hc hd;go_wp2
      go_round
      case rel=>exact⟨k+2,by omega,by go_num,HQ.o.pair hk1 (HC.o.trans HC'.o) (HD.o.trans HD'.o)⟩
      case measure=>simp[intOf];omega
     ·have hdb:((d.toNat:Int)==39)=false:=mY hd rfl;have HC':=aB hc;have HD':=aB hd;clear hc hd;go_wp2;go_ret;exact⟨lI (HQ.o.rdone hlt (HC.o.trans HC'.o) (by rw[fQ,aP hk1,HD.o];simpa using HD'.o)).symm,rfl⟩
    ·have hk2:k+1=l.length:=by omega
     have HK2:=aB hk2;have HC':=aB hc;have hnl:¬((k:Int)+1<(l.length:Int)):=aE;clear hc hk2;go_wp2;go_ret;exact⟨lI (HQ.o.rdone hlt (HC.o.trans HC'.o) (by rw[HK2.o,dO];simp)).symm,rfl⟩
   ·have hcb:((c.toNat:Int) != 39)=true:=b7n hc rfl;have hcb':((c.toNat:Int)==39)=false:=mY hc rfl;have HC':=aB hc;clear hc;go_wp2
    go_round
    case rel=>exact⟨k+1,by omega,by go_num,HQ.o.step hlt (by rw[HC.o];exact HC'.o)⟩
    case measure=>simp[intOf];omega
  ·obtain rfl:k=l.length:=by omega
   go_wp2;go_ret;exact⟨lI HQ.o.rnone.symm,rfl⟩
end
section
def SkF(l:List UInt8)(k j:Nat)(b:Bool):Prop:=k<=j/\j<=l.length/\bX b (l.drop j)=bX false (l.drop k)
theorem SkF.blank{l:List UInt8}{k j:Nat}(h:SkF l k j false){c:UInt8}(hc:l[j]?=some c)(hb:iR c=true):SkF l k (j+1) false:=by
 have hj:=(aO.1 hc).1;refine⟨by have:=h.1;omega,by omega,?_⟩;rw[<-h.2.2,aZ hj,vI,(aO.1 hc).2,if_pos hb]
theorem SkF.enter{l:List UInt8}{k j:Nat}(h:SkF l k j false)(hc:l[j]?=some 45)(hd:l[j+1]?=some 45):SkF l k j true:=by
 refine⟨h.1,h.2.1,?_⟩;rw[<-h.2.2,xX ⟨by rw[fQ];exact hc,by rw[iE];exact hd⟩]
theorem SkF.inside{l:List UInt8}{k j:Nat}(h:SkF l k j true){c:UInt8}(hc:l[j]?=some c)(hb:c≠10):SkF l k (j+1) true:=by
 have hj:=(aO.1 hc).1;refine⟨by have:=h.1;omega,by omega,?_⟩;rw[<-h.2.2,aZ hj,zS,(aO.1 hc).2,if_neg hb]
theorem SkF.leave{l:List UInt8}{k j:Nat}(h:SkF l k j true)(hc:l[j]?=some 10\/j=l.length):SkF l k j false:=by
 refine⟨h.1,h.2.1,?_⟩;rw[<-h.2.2];rcases hc with hc|rfl
 ·have hj:=(aO.1 hc).1;rw[aZ hj,zS,vI,(aO.1 hc).2,if_pos af,if_pos rfl]
 ·rw[dO,uQ,uQ]
theorem SkF.stay{l:List UInt8}{k j:Nat}(h:SkF l k j false)(hs:bX false (l.drop j)=l.drop j):l.length-(bX false (l.drop k)).length=j:=by
 rw[<-h.2.2,hs];simp;have:=h.2.1;omega
theorem a7m{l:List UInt8}{j:Nat}{c:UInt8}(hc:l[j]?=some c)(hb:iR c=false)(h2:¬(c=45/\l[j+1]?=some 45)):bX false (l.drop j)=l.drop j:=by
 refine sM ?_ ?_
 ·intro a ha;rw[fQ,hc] at ha;injection ha with ha;rw[<-ha];exact hb
 ·rintro⟨e1,e2⟩;rw[fQ,hc] at e1;injection e1 with e1;rw[iE] at e2;exact h2 ⟨e1,e2⟩
theorem a0b(l:List UInt8)(k:Nat)(hk:k<=l.length)(hl:l.length<=1000000)(w:World):cL 111 #[S l,.int .i64 k] w fun e w'=>e= .returned (.int .i64 ((l.length-(bX false (l.drop k)).length:Nat):Int))/\w=w':=by
 go_enter func111,ntmps111;go_wp2_with fail
 go_loop [1] (fun i=>∃j:Nat,j<=l.length/\i= .int .i64 j/\Hid (SkF l k j false)) (fun i=>l.length-(intOf i).toNat)
 case atStart=>exact⟨k,hk,rfl,⟨aH _,hk,rfl⟩⟩
 case round=>
  obtain⟨j,hj,rfl,HS⟩:=hrel;by_cases hlt:j<l.length
  ·have g1:=aB (fK l j aq);generalize hc1:(⟨l.toArray⟩:ByteArray)[j]' aq=c at *;by_cases hb:iR c=true
   ·have HB:=aB (HS.o.blank g1.o hb);have hd:c=32\/c=9\/c=10\/c=13:=(by simpa[iR,or_assoc] using hb);clear hb;rcases hd with rfl|rfl|rfl|rfl
    all_goals
     go_wp2
     go_round
     case rel=>exact⟨j+1,by omega,by go_num,HB.o⟩
     case measure=>simp[intOf];omega
   ·have hb':iR c=false:=by simpa using hb
    have n1:((c.toNat:Int)==32)=false:=mY (k:=32) (fun e=>hb (by rw[e];rfl)) rfl;have n2:((c.toNat:Int)==9)=false:=mY (k:=9) (fun e=>hb (by rw[e];rfl)) rfl;have n3:((c.toNat:Int)==10)=false:=mY (k:=10) (fun e=>hb (by rw[e];rfl)) rfl;have n4:((c.toNat:Int)==13)=false:=mY (k:=13) (fun e=>hb (by rw[e];rfl)) rfl;have HB:=aB hb';clear hb hb';by_cases h45:c=45
    ·have n5:((c.toNat:Int)==45)=true:=by rw[h45];rfl
     by_cases hj1:j+1<l.length
     ·have g2:=aB (fK l (j+1) (by rw[size_of_list];exact hj1));generalize hc2:(⟨l.toArray⟩:ByteArray)[j+1]'(by rw[size_of_list];exact hj1)=d at *;have x3:((j:Int)+1).toNat=j+1:=aE;by_cases hd:d=45
      ·have n6:((d.toNat:Int)==45)=true:=by rw[hd];rfl
       have HE:=aB (HS.o.enter (by rw[g1.o,h45]) (by rw[g2.o,hd]));have H45:=aB h45;clear h45 hd;go_wp2_with fail;clear n1 n2 n3 n4 n5 n6 hc1 hc2 x3
       go_loop [1] (fun i=>∃m:Nat,j<=m/\m<=l.length/\i= .int .i64 m/\Hid (SkF l k m true)) (fun i=>l.length-(intOf i).toNat)
       case atStart=>exact⟨j,aH _,hj,rfl,HE.o⟩
       case round=>
        obtain⟨m,hm1,hm2,rfl,HM⟩:=hrel;by_cases hml:m<l.length
        ·have g3:=aB (fK l m (by rw[size_of_list];exact hml));generalize hc3:(⟨l.toArray⟩:ByteArray)[m]'(by rw[size_of_list];exact hml)=a at *;by_cases ha:a=10
         ·have na:((a.toNat:Int) != 10)=false:=by rw[ha];rfl
          have HL:=aB (HM.o.leave (.inl (by rw[g3.o,ha])));have hjm:j<m:=by
           rcases Nat.lt_or_eq_of_le hm1 with h|h
           ·exact h
           ·subst h;have:=g3.o;rw[g1.o,ha,H45.o] at this;cases this
          clear ha;go_wp2
          go_round
          case rel=>exact⟨m,by omega,rfl,HL.o⟩
          case measure=>simp[intOf];omega
         ·have na:((a.toNat:Int) != 10)=true:=b7n ha rfl;have na':((a.toNat:Int)==10)=false:=mY ha rfl;have HI:=aB (HM.o.inside g3.o ha);clear ha;go_wp2
          go_round
          case rel=>exact⟨m+1,by omega,by omega,by go_num,HI.o⟩
          case measure=>simp[intOf];omega
        ·obtain rfl:m=l.length:=by omega
         have HL:=aB (HM.o.leave (.inr rfl));go_wp2
         go_round
         case rel=>exact⟨l.length,by omega,rfl,HL.o⟩
         case measure=>simp[intOf];omega
      ·have n6:((d.toNat:Int)==45)=false:=mY hd rfl;have HR:=aB (HS.o.stay (a7m g1.o HB.o (by rintro⟨_,e⟩;rw[g2.o] at e;injection e with e;exact hd e)));clear hd h45;go_wp2;go_ret;exact⟨lI (by rw[HR.o]),rfl⟩
     ·have HR:=aB (HS.o.stay (a7m g1.o HB.o (by rintro⟨_,e⟩;have:=(aO.1 e).1;omega)));have hnl:¬((j:Int)+1<(l.length:Int)):=aE;clear h45;go_wp2;go_ret;exact⟨lI (by rw[HR.o]),rfl⟩
    ·have n5:((c.toNat:Int)==45)=false:=mY h45 rfl;have HR:=aB (HS.o.stay (a7m g1.o HB.o (fun e=>h45 e.1)));clear h45;go_wp2;go_ret;exact⟨lI (by rw[HR.o]),rfl⟩
  ·obtain rfl:j=l.length:=by omega
   have HR:=aB (HS.o.stay (by rw[dO];rfl));go_wp2;go_ret;exact⟨lI (by rw[HR.o]),rfl⟩
end
section
theorem xQ(l:List UInt8)(n m:Nat):(⟨l.toArray⟩:ByteArray).extract n (n+m)=⟨((l.drop n).take m).toArray⟩:=by
 apply ByteArray.ext;apply nU;simp
theorem a0d(a x:List UInt8):aS a x=(a.take x.length==x):=by
 unfold aS;rw[kC,List.isPrefixOf_iff_prefix,List.prefix_iff_eq_take,beq_iff_eq];exact⟨fun h=>h.symm,fun h=>h.symm⟩
def uO(l:List UInt8)(k:Nat):Prop:=∀j,j<k->j<17->aS l (kT[j]!)=false
theorem a2j{α:Type}[Inhabited α](p:α->Bool):∀(l:List α) (k:Nat),k<l.length->(∀j,j<k->p l[j]! =false)->p l[k]! =true->l.find? p=some l[k]!
 |[],k,h,_,_=>by simp at h
 |a::l,0,_,_,h=>by simp at h;simp[h]
 |a::l,k+1,h,hn,hk=>by
  have h0:=hn 0 aE;simp at h0;have hk':p l[k]! =true:=(by simpa using hk);have:=a2j p l k av (fun j hj=>by simpa using hn (j+1) aE) hk';simp[h0,this]
theorem uO.found{l:List UInt8}{k:Nat}(h:uO l k)(hk:k<17)(hp:aS l kT[k]! =true):iN l=kT[k]! :=by
 unfold iN;rw[a2j (fun x=>aS l x) kT k hk (fun j hj=>h j hj aE) hp];rfl
theorem uO.none{l:List UInt8}(h:uO l 17):iN l=[]:=by
 unfold iN;rw[List.find?_eq_none.2]
 ·rfl
 ·intro x hx;obtain⟨j,hj,rfl⟩:=List.mem_iff_getElem.1 hx;have:=h j hj hj;simpa[hj] using this
theorem uO.next{l:List UInt8}{k:Nat}(h:uO l k)(hp:aS l kT[k]! =false):uO l (k+1):=fun j h1 h2=>by
 by_cases e:j=k
 ·rw[e];exact hp
 ·exact h j aE h2
theorem b4v:∀k,k<17->kT[k]!.length<=2
 |0,_=>by decide|1,_=>by decide|2,_=>by decide|3,_=>by decide|4,_=>by decide|5,_=>by decide|6,_=>by decide|7,_=>by decide|8,_=>by decide
 |9,_=>by decide|10,_=>by decide|11,_=>by decide|12,_=>by decide|13,_=>by decide|14,_=>by decide|15,_=>by decide|16,_=>by decide
 |n+17,h=>absurd h aE
theorem b5c(l:List UInt8)(n:Nat)(hn:n<=l.length)(hl:l.length<=1000000)(w:World):cL 142 #[S l,.int .i64 n] w fun e w'=>e= .returned (S (iN (l.drop n)))/\Bl w w':=by
 have HC0:=aB (aN w (.cells b1m 9));go_enter func142,ntmps142;go_wp2_with fail;go_loopw [6] (fun i wr=>∃k:Nat,k<=17/\i= .int .i64 k/\Hid (uO (l.drop n) k)/\Bl w wr/\Hid (wr.heap[w.heap.size]?=some (.cells b1m 9 (0,0)))) (fun i _=>17-(intOf i).toNat)
 case atStart=>exact⟨0,by omega,rfl,fun j h=>by omega,(Bl.refl w).alloc _,HC0.o⟩
 case round=>
  obtain⟨k,hk,rfl,HN,hB,HC⟩:=hrel;by_cases hlt:k<17
  ·have hcell:wr.cell? ⟨w.heap.size,k,none⟩=some (S kT[k]!):=by rw[aG HC.o];exact a5d k hlt
   have hx2:=b4v k hlt;have HF:Hid (aS (l.drop n) kT[k]! =true->iN (l.drop n)=kT[k]!):=fun h=>HN.o.found hlt h;have HX:Hid (aS (l.drop n) kT[k]! =false->uO (l.drop n) (k+1)):=fun h=>HN.o.next h;have HP:Hid (aS (l.drop n) kT[k]! =((l.drop n).take kT[k]!.length==kT[k]!)):=a0d _ _;generalize kT[k]! =x at *;by_cases hle:n+x.length<=l.length
   ·have hmid:=xQ l n x.length;have x1:IntKind.i64.wrap ((n:Int)+(x.length:Int))=(n:Int)+(x.length:Int):=gW _ aE;have x2:((n:Int)+(x.length:Int)).toNat=n+x.length:=aE;have x3:decide ((n:Int)+(x.length:Int)<=(l.length:Int))=true:=ab;have x4:0<=(n:Int)+(x.length:Int):=aE;cases hp:((l.drop n).take x.length==x)
    ·have HQ:Hid (uO (l.drop n) (k+1)):=HX.o (by rw[HP.o,hp]);go_wp2_with fail
     go_quiet (fail)
     clear x1 x2 x3 x4 hmid hp;go_wp2;go_roundw
     case rel=>exact⟨k+1,by omega,by go_num,HQ.o,hB.call (Bl.drewN _ _),HC.o⟩
     case measure=>simp[intOf];omega
    ·have HQ:Hid (iN (l.drop n)=x):=HF.o (by rw[HP.o,hp]);go_wp2_with fail
     go_quiet (fail)
     clear x1 x2 x3 x4 hmid hp;have hcell':(wr.drewN nq).cell? ⟨w.heap.size,k,none⟩=some (S x):=hcell;go_wp2;go_ret;exact⟨b1y HQ.o.symm,hB.call (Bl.drewN _ _)⟩
   ·have x1:IntKind.i64.wrap ((n:Int)+(x.length:Int))=(n:Int)+(x.length:Int):=gW _ aE;have x3:decide ((n:Int)+(x.length:Int)<=(l.length:Int))=false:=ab;have HQ:Hid (uO (l.drop n) (k+1)):=HX.o (by
     rw[HP.o,beq_eq_false_iff_ne];intro e;have:=congrArg lV e;simp at this;omega)
    go_wp2_with fail
    go_quiet (fail)
    clear x1 x3;go_wp2;go_roundw
    case rel=>exact⟨k+1,by omega,by go_num,HQ.o,hB.call (Bl.drewN _ _),HC.o⟩
    case measure=>simp[intOf];omega
  ·obtain rfl:k=17:=by omega
   have HQ:=aB HN.o.none;go_wp2;go_ret;exact⟨b1y HQ.o.symm,hB⟩
end
section
def c2l(l:List UInt8)(n:Nat)(w:World)(e:Ending)(w':World):Prop:=
 (match rM fP (l.drop n) with
  |some x=>e= .returned (.tuple #[TV x.1 n ((l.drop n).take x.2.1) x.2.2.1 x.2.2.2.1 x.2.2.2.2,.int .i64 ((n+x.2.1:Nat):Int),.int .i64 0])
  |none=>∃(k p a b:Int) (t z:List UInt8),e= .returned (.tuple #[TV k p t a b z,.int .i64 0,.int .i64 250]))/\Bl w w'
theorem mV{l:List UInt8}{n:Nat}{w W:World}(h:rM fP (l.drop n)=none)(k p a b:Int)(t z:List UInt8)(hb:Bl w W):c2l l n w (.returned (.tuple #[TV k p t a b z,.int .i64 0,.int .i64 250])) W:=by
 refine⟨?_,hb⟩;rw[h];exact⟨k,p,a,b,t,z,rfl⟩
theorem rJ{l:List UInt8}{n:Nat}{w W:World}{k:Int}{m:Nat}{v1 v2:Int}{v3:List UInt8}(h:rM fP (l.drop n)=some (k,m,v1,v2,v3))(hb:Bl w W):
  c2l l n w (.returned (.tuple #[TV k n ((l.drop n).take m) v1 v2 v3,.int .i64 ((n:Int)+(m:Int)),.int .i64 0])) W:=by
 refine⟨?_,hb⟩;rw[h];simp
theorem kK{a:Act}{W:World}{b:Nat}{k p x y u ec:Int}{t z:List UInt8}{R:Ending->World->Prop}(h2:a.tmps[4]?=some (.pointer (some ⟨b,0,none⟩)))(h5:a.tmps[5]?=some (.int .i64 u))(h6:a.tmps[6]?=some (.int .i64 ec))(hd:a.defers=[])
  (hW:W.heap[b]?=some (.cells #[.int .i64 k,.int .i64 p,S t,.int .i64 x,.int .i64 y,S z] 130 (0,0))) (hE:R (.returned (.tuple #[TV k p t x y z,.int .i64 u,.int .i64 ec])) W):bodyPost prog Tryz.f112 R .ret a W:=by
 obtain⟨⟨q0,q1,q2,q3,q4,q5⟩,-⟩:=kJ hW;obtain⟨tm,d⟩:=a;refine bodyPost_ret (v:= .tuple #[TV k p t x y z,.int .i64 u,.int .i64 ec]) ?_ hd hE;simp[results,results112,go_sem,q0,q1,q2,q3,q4,q5,h2,h5,h6]
theorem uH{s:List UInt8}(h:rU s=none):rM fP s=none:=by unfold rM;rw[h];rfl
theorem a2h{s:List UInt8}{k:Int}{m:Nat}(h:rU s=some (k,m))(hk:k≠2):rM fP s=some (k,m,0,0,[]):=by unfold rM valOf;rw[h];simp[hk]
theorem uV{s:List UInt8}{m:Nat}(h:rU s=some (2,m))(he:(dF (s.take m)).2.2.2=0):rM fP s=some (2,m,(dF (s.take m)).1,(dF (s.take m)).2.1,(dF (s.take m)).2.2.1):=by
 unfold rM valOf fP;rw[h];simp[he]
theorem zF{s:List UInt8}{m:Nat}(h:rU s=some (2,m))(he:¬(dF (s.take m)).2.2.2=0):rM fP s=none:=by
 unfold rM valOf fP;rw[h];simp[he]
abbrev c7m:Obj:= .cells #[.int .i64 0,.int .i64 0,S [],.int .i64 0,.int .i64 0,S []] 130
theorem drop_at{l:List UInt8}{n:Nat}{c:UInt8}(h:l[n]?=some c):l.drop n=c::l.drop (n+1):=by
 have hn:=(aO.1 h).1;rw[aZ hn,(aO.1 h).2]
theorem a7n(s:List UInt8):s.take (iN s).length=iN s:=by
 unfold iN;cases h:kT.find? fun x=>aS s x with
 |none=>rfl
 |some x=>
  have:=List.find?_some h;rw[a0d] at this;simpa using this
theorem a0o{c:UInt8}(h:dI c=true):cZ c=false:=by
 have:=qE (q:=fun c=> !(dI c)|| !(cZ c)) (by decide+kernel) c;simp only[h] at this;simpa using this
theorem a1u(W:World)(b:Nat)(u v:Value){o:Obj}(h:W.heap[b]?=some o):((W.setCell ⟨b+1,0,none⟩ u).setCell ⟨b+1,2,none⟩ v).heap[b]?=some o:=
 (aM _ ⟨b+1,2,none⟩ _ _ aa).trans ((aM _ ⟨b+1,0,none⟩ _ _ aa).trans h)
theorem a9k{w W:World}(u v:Value)(h:Bl w W):Bl w ((W.setCell ⟨w.heap.size+1,0,none⟩ u).setCell ⟨w.heap.size+1,2,none⟩ v):=(h.set aa _).set aa _
theorem head_drop(l:List UInt8)(n:Nat):(l.drop n).head?=l[n]?:=fQ
theorem b5g(l:List UInt8)(n:Nat)(c:UInt8)(hc:l[n]?=some c)(hl:l.length<=10000)(hlet:cZ c=true)(hx:¬(c=120/\l[n+1]?=some 39))(w:World):cL 112 #[S l,.int .i64 n] w (c2l l n w):=by
 have hn:=(aO.1 hc).1;have hs:=drop_at hc;have hcut:rU (l.drop n)=if jJ jP (l.drop n)<=30 then some (1,jJ jP (l.drop n)) else none:=by
  have e:jJ jP (c::l.drop (n+1))=jJ jP (l.drop (n+1))+1:=(by rw[iP,if_pos (by simp[jP,hlet])]);rw[hs,jE,if_pos ⟨hlet,by rw[head_drop];exact hx⟩,e]
 have hr1:1<=jJ jP (l.drop n):=(by rw[hs,iP,if_pos (by simp[jP,hlet])];omega);have hr2:=xL jP (l.drop n);have hr3:n+jJ jP (l.drop n)<=l.length:=(by simp at hr2;omega);have HCUT:=aB hcut;have HLET:=aB hlet;clear hcut hs hr2 hlet;have g1:=aB hc;have hby:(⟨l.toArray⟩:ByteArray)[n]' ay=c:=by
  have:=fK l n ay;rw[hc] at this;injection this with this;exact this.symm
 clear hc;have hmid:=xQ l n (jJ jP (l.drop n));have hgo:Hid (((c.toNat:Int)==120)=false\/(((c.toNat:Int)==120)=true/\(¬n+1<l.length\/∃h:n+1<l.length,∃d:UInt8,(⟨l.toArray⟩:ByteArray)[n+1]'(by rw[size_of_list];exact h)=d/\((d.toNat:Int)==39)=false))):=by
  by_cases h120:c=120
  ·refine .inr ⟨by rw[h120];rfl,?_⟩;by_cases h1:n+1<l.length
   ·refine .inr ⟨h1,_,rfl,mY (k:=39) ?_ rfl⟩;intro e;refine hx ⟨h120,?_⟩;rw[fK l (n+1) (by rw[size_of_list];exact h1),e]
   ·exact .inl h1
  ·exact .inl (mY h120 rfl)
 clear hx;have x3:((n:Int)+1).toNat=n+1:=aE;have hru:wdB true=jP:=rfl;have HRU:=aB hru;clear hru;rcases hgo.o with hg|⟨hg,hg2|⟨hn1,d,hd,hdb⟩⟩
 case' inr.inl=>have hnl:¬((n:Int)+1<(l.length:Int)):=by omega
 all_goals
  clear hgo;go_enter func112,ntmps112;go_wp2_with (first
   |(go_at_call 138;(with_reducible refine(iQ c _).mono ?_);rintro e w' ⟨rfl,rfl⟩;rw[HLET.o])
   |(go_at_call 139;(with_reducible refine(a9s true l n aE aE _).mono ?_);rintro e w' ⟨rfl,rfl⟩;rw[HRU.o]))
  generalize jJ jP (l.drop n)=m at *;have x5:((n:Int)+(m:Int)).toNat=n+m:=aE;have x6:0<=(n:Int)+(m:Int):=aE;have hnm:((n+m:Nat):Int)=(n:Int)+(m:Int):=by simp
  go_region
  by_cases h30:m<=30
  ·have HO:=aB (a2h (k:=1) (m:=m) (by rw[HCUT.o,if_pos h30]) af);go_wp2_with fail;exact kK (b:=w.heap.size) rfl rfl rfl rfl (by show(aY (aY w _) _).heap[w.heap.size]?=_;rw[aW _ _ aa,aN]) (rJ HO.o (((Bl.refl w).alloc _).alloc _).drew)
  ·have HO:=aB (uH (by rw[HCUT.o,if_neg h30]));go_wp2_with fail
   all_goals exact kK (b:=w.heap.size) rfl rfl rfl rfl (by show(aY (aY w _) _).heap[w.heap.size]?=_;rw[aW _ _ aa,aN]) (mV HO.o _ _ _ _ _ _ (((Bl.refl w).alloc _).alloc _).drew)
end
section
theorem b5h(l:List UInt8)(n:Nat)(c:UInt8)(hc:l[n]?=some c)(hl:l.length<=10000)(hlet:cZ c=false)(hdig:dI c=false)(h39:c≠39)(w:World):cL 112 #[S l,.int .i64 n] w (c2l l n w):=by
 have hn:=(aO.1 hc).1;have hs:=drop_at hc;have h120:c≠120:=(by rintro rfl;exact absurd hlet af);have hcut:rU (l.drop n)=if(iN (l.drop n)).length=0 then none else some (3,(iN (l.drop n)).length):=by
  rw[hs,jE,if_neg (by rw[hlet];simp),if_neg h39,if_neg h120,if_neg (by rw[hdig];decide),wP]
 have hpre:(l.drop n).take (iN (l.drop n)).length=iN (l.drop n):=a7n _;have hby:(⟨l.toArray⟩:ByteArray)[n]' ay=c:=by
  have:=fK l n ay;rw[hc] at this;injection this with this;exact this.symm
 have n1:((c.toNat:Int)==39)=false:=mY h39 rfl;have n2:((c.toNat:Int)==120)=false:=mY h120 rfl;have HCUT:=aB hcut;have HPRE:=aB hpre;have HLET:=aB hlet;have HDIG:=aB hdig;clear hcut hpre hs hc hlet hdig h39 h120;go_enter func112,ntmps112;go_wp2_with (first
  |(go_at_call 138;(with_reducible refine(iQ c _).mono ?_);rintro e w' ⟨rfl,rfl⟩;rw[HLET.o])
  |(go_at_call 140;(with_reducible refine(kH c _).mono ?_);rintro e w' ⟨rfl,rfl⟩;rw[HDIG.o]))
 (with_reducible refine(b5c l n aE aE _).mono ?_)
 rintro e w1 ⟨rfl,hb1⟩;have hA:w1.heap[w.heap.size]?=some (.cells #[.int .i64 0,.int .i64 0,S [],.int .i64 0,.int .i64 0,S []] 130 (0,0)):=by
  rw[hb1.block _ ab,aW _ _ aa,aN]
 have hT:w1.heap[w.heap.size+1]?=some (.cells #[.int .i64 0,.int .i64 (n:Int),S [],.int .i64 0,.int .i64 0,S []] 130 (0,0)):=by
  rw[hb1.block _ aa,aV _ _ aa]
 have hB:Bl w w1:=(((Bl.refl w).alloc _).alloc _).call hb1;generalize iN (l.drop n)=x at *;clear hb1 n1 n2 hby
 obtain⟨⟨c0,c1,c2,c3,c4,c5⟩,⟨f0,f1,f2,f3,f4,f5⟩⟩:=kJ hA;obtain⟨⟨d0,d1,d2,d3,d4,d5⟩,⟨k0,k1,k2,k3,k4,k5⟩⟩:=kJ hT;by_cases hx0:x=[]
 ·subst hx0;have HO:=aB (uH (by rw[HCUT.o];rfl));go_wp2_with fail;have hA2:=a1u w1 w.heap.size (.int .i64 3) (S []) hA;have hB2:=a9k (.int .i64 3) (S []) hB;generalize (w1.setCell ⟨w.heap.size+1,0,none⟩ (.int .i64 3)).setCell ⟨w.heap.size+1,2,none⟩ (S [])=W2 at *;exact kK (b:=w.heap.size) rfl rfl rfl rfl (jC W2 w.heap.size _ _ _ _ _ _ _ _ _ _ _ _ 130 hA2) (mV HO.o _ _ _ _ _ _ (nP hB2 (aH _) _ _ _ _ _ _))
 ·have hxl:1<=x.length:=by cases x with
   |nil=>exact absurd rfl hx0
   |cons a r=>simp
  have hxe:(x==[])=false:=(by simpa using hx0);have hxi:x.isEmpty=false:=by cases x with
   |nil=>exact absurd rfl hx0
   |cons a r=>rfl
  have HO:=aB (a2h (k:=3) (m:=x.length) (by rw[HCUT.o,if_neg aE]) af);have hxl2:x.length<=10000:=(by have:=congrArg lV HPRE.o;simp at this;omega);clear hx0;go_wp2_with fail
  go_region
  have hA2:=a1u w1 w.heap.size (.int .i64 3) (.string ⟨x.toArray⟩) hA;have hB2:=a9k (.int .i64 3) (.string ⟨x.toArray⟩) hB;generalize (w1.setCell ⟨w.heap.size+1,0,none⟩ (.int .i64 3)).setCell ⟨w.heap.size+1,2,none⟩ (.string ⟨x.toArray⟩)=W2 at *;clear c0 c1 c2 c3 c4 c5 f0 f1 f2 f3 f4 f5 d0 d1 d2 d3 d4 d5 k0 k1 k2 k3 k4 k5;go_wp2_with fail;have hS6:=jC W2 w.heap.size _ _ _ _ _ _ (.int .i64 3) (.int .i64 (n:Int)) (.string ⟨x.toArray⟩) (.int .i64 0) (.int .i64 0) (S []) 130 hA2;have hB6:=nP hB2 (aH w.heap.size) (.int .i64 3) (.int .i64 (n:Int)) (.string ⟨x.toArray⟩) (.int .i64 0) (.int .i64 0) (S []);generalize (((((W2.setCell ⟨w.heap.size,0,none⟩ (.int .i64 3)).setCell ⟨w.heap.size,1,none⟩ (.int .i64 (n:Int))).setCell ⟨w.heap.size,2,none⟩ (.string ⟨x.toArray⟩)).setCell ⟨w.heap.size,3,none⟩ (.int .i64 0)).setCell ⟨w.heap.size,4,none⟩ (.int .i64 0)).setCell ⟨w.heap.size,5,none⟩ (S [])=W6 at *;have hR:=rJ HO.o hB6.drew;rw[HPRE.o] at hR;have hS7:W6.drew.heap[w.heap.size]?=_:=hS6;exact kK (b:=w.heap.size) rfl rfl rfl rfl hS7 hR
end
section
theorem b9f(l:List UInt8)(n:Nat)(c:UInt8)(hc:l[n]?=some c)(hl:l.length<=10000)(hdig:dI c=true)(w:World):cL 112 #[S l,.int .i64 n] w (c2l l n w):=by
 have hn:=(aO.1 hc).1;have hs:=drop_at hc;have hlet:cZ c=false:=a0o hdig;have h39:c≠39:=(by rintro rfl;exact absurd hdig af);have h120:c≠120:=(by rintro rfl;exact absurd hdig af);have hrun:jJ dI (l.drop n)=jJ dI (l.drop (n+1))+1:=(by rw[hs,iP,if_pos hdig]);have hcut:rU (l.drop n)=if(l[n+jJ dI (l.drop n)]?).map cZ=some true then none else some (2,jJ dI (l.drop n)):=by
  have e:((l.drop (n+1)).drop (jJ dI (l.drop (n+1)))).head?=l[n+jJ dI (l.drop n)]?:=by
   rw[iI,fQ,hrun];congr 1;omega
  rw[hs,jE,if_neg (by rw[hlet];simp),if_neg h39,if_neg h120,if_pos hdig,e,<-hs,<-hrun]
 have hr2:=xL dI (l.drop n);have hr3:n+jJ dI (l.drop n)<=l.length:=(by simp at hr2;omega);have hr1:1<=jJ dI (l.drop n):=aE;have hby:(⟨l.toArray⟩:ByteArray)[n]' ay=c:=by
  have:=fK l n ay;rw[hc] at this;injection this with this;exact this.symm
 have HCUT0:=aB hcut;have HLET:=aB hlet;have HDIG:=aB hdig;have HRU:Hid (wdB false=dI):=rfl;clear hcut hs hc hlet hdig h39 h120 hrun hr2;go_enter func112,ntmps112;go_wp2_with (first
  |(go_at_call 138;(with_reducible refine(iQ c _).mono ?_);rintro e w' ⟨rfl,rfl⟩;rw[HLET.o])
  |(go_at_call 140;(with_reducible refine(kH c _).mono ?_);rintro e w' ⟨rfl,rfl⟩;rw[HDIG.o]))
 (with_reducible refine(a9s false l n aE aE _).mono ?_)
 rintro e w' ⟨rfl,rfl⟩;rw[HRU.o];generalize jJ dI (l.drop n)=m at *;clear hby
 rw[show((n+m:Nat):Int)=(n:Int)+(m:Int) by simp];by_cases hend:n+m<l.length
 ·have g2:=aB (fK l (n+m) (by rw[size_of_list];exact hend));generalize hc2:(⟨l.toArray⟩:ByteArray)[n+m]'(by rw[size_of_list];exact hend)=d at *;have x2:((n:Int)+(m:Int)).toNat=n+m:=aE;cases hld:cZ d
  ·have HCUT:Hid (rU (l.drop n)=some (2,m)):=by show _=_;rw[HCUT0.o,g2.o,if_neg (by simp[hld])]
   have HLD:=aB hld;clear hld;go_wp2_with (first
    |(go_at_call 138;(with_reducible refine(iQ d _).mono ?_);rintro e w' ⟨rfl,rfl⟩;rw[HLD.o]))
   clear hc2 x2;have x5:((n:Int)+(m:Int)).toNat=n+m:=aE;have x6:0<=(n:Int)+(m:Int):=aE;have x7:¬((n:Int)+(m:Int)<0):=aE;have hmid:=xQ l n m
   try(go_wp2_with fail)
   go_region
   clear x5 x6 x7 hmid;have hlt3:((l.drop n).take m).length<=10000:=ab;generalize htx:(l.drop n).take m=tx at *;have HTX:=aB htx;clear htx;have hb0:Bl w (((w.alloc c7m).alloc (.cells #[.int .i64 2,.int .i64 (n:Int),.string ⟨tx.toArray⟩,.int .i64 0,.int .i64 0,S []] 130)).drew):=(((Bl.refl w).alloc _).alloc _).drew;go_wp2_with fail
   (with_reducible refine(uT tx hlt3 _).mono ?_)
   rintro e w1 ⟨he,hb1⟩;unfold mE at he;subst he;have hA:w1.heap[w.heap.size]?=some (.cells #[.int .i64 0,.int .i64 0,S [],.int .i64 0,.int .i64 0,S []] 130 (0,0)):=by
    rw[hb1.block _ bv];show(aY (aY w _) _).heap[w.heap.size]?=_;rw[aW _ _ aa,aN]
   have hT:w1.heap[w.heap.size+1]?=some (.cells #[.int .i64 2,.int .i64 (n:Int),.string ⟨tx.toArray⟩,.int .i64 0,.int .i64 0,S []] 130 (0,0)):=by
    rw[hb1.block _ bz];show(aY (aY w _) _).heap[w.heap.size+1]?=_;rw[aV _ _ aa]
   have hB:Bl w w1:=hb0.call hb1;clear hb0 hb1;have HV:Hid ((dF tx).2.2.2=0->rM fP (l.drop n)=some (2,m,(dF tx).1,(dF tx).2.1,(dF tx).2.2.1)):=by
    intro h;have:=uV HCUT.o be;rw[HTX.o] at this;exact this
   have HX:Hid (¬(dF tx).2.2.2=0->rM fP (l.drop n)=none):=fun h=>zF HCUT.o be;generalize dF tx=pv at *;obtain⟨p1,p2,p3,pe⟩:=pv;simp only at HV HX⊢;obtain⟨⟨c0,c1,c2,c3,c4,c5⟩,⟨f0,f1,f2,f3,f4,f5⟩⟩:=kJ hA;obtain⟨⟨d0,d1,d2,d3,d4,d5⟩,⟨k0,k1,k2,k3,k4,k5⟩⟩:=kJ hT;have hlt8:w.heap.size+1<w1.heap.size:=(aC.1 hT).1;have hltA:w.heap.size<w1.heap.size:=aE;by_cases hpe:pe=0
   ·subst hpe;have HV2:=aB (HV.o rfl);clear HV HX;go_wp2_with fail;clear c0 c1 c2 c3 c4 c5 f0 f1 f2 f3 f4 f5 d0 d1 d2 d3 d4 d5 k0 k1 k2 k3 k4 k5;have hA5:(((w1.setCell ⟨w.heap.size+1,3,none⟩ (.int .i64 p1)).setCell ⟨w.heap.size+1,4,none⟩ (.int .i64 p2)).setCell ⟨w.heap.size+1,5,none⟩ (.string ⟨p3.toArray⟩)).heap[w.heap.size]?=_:=
     (aM _ ⟨w.heap.size+1,5,none⟩ _ _ aa).trans ((aM _ ⟨w.heap.size+1,4,none⟩ _ _ aa).trans ((aM _ ⟨w.heap.size+1,3,none⟩ _ _ aa).trans hA))
    have hB5:Bl w (((w1.setCell ⟨w.heap.size+1,3,none⟩ (.int .i64 p1)).setCell ⟨w.heap.size+1,4,none⟩ (.int .i64 p2)).setCell ⟨w.heap.size+1,5,none⟩ (.string ⟨p3.toArray⟩)):=((hB.set aa _).set aa _).set aa _;generalize ((w1.setCell ⟨w.heap.size+1,3,none⟩ (.int .i64 p1)).setCell ⟨w.heap.size+1,4,none⟩ (.int .i64 p2)).setCell ⟨w.heap.size+1,5,none⟩ (.string ⟨p3.toArray⟩)=W5 at *;have hS6:=jC W5 w.heap.size _ _ _ _ _ _ (.int .i64 2) (.int .i64 (n:Int)) (.string ⟨tx.toArray⟩) (.int .i64 p1) (.int .i64 p2) (.string ⟨p3.toArray⟩) 130 hA5;have hB6:=nP hB5 (aH w.heap.size) (.int .i64 2) (.int .i64 (n:Int)) (.string ⟨tx.toArray⟩) (.int .i64 p1) (.int .i64 p2) (.string ⟨p3.toArray⟩);generalize (((((W5.setCell ⟨w.heap.size,0,none⟩ (.int .i64 2)).setCell ⟨w.heap.size,1,none⟩ (.int .i64 (n:Int))).setCell ⟨w.heap.size,2,none⟩ (.string ⟨tx.toArray⟩)).setCell ⟨w.heap.size,3,none⟩ (.int .i64 p1)).setCell ⟨w.heap.size,4,none⟩ (.int .i64 p2)).setCell ⟨w.heap.size,5,none⟩ (.string ⟨p3.toArray⟩)=W6 at *;exact kK (b:=w.heap.size) rfl rfl rfl rfl ((aW W6 _ (aC.1 hS6).1).trans hS6) (by
     have:=rJ HV2.o (hB6.alloc (.cells #[.int .i64 p1,.int .i64 p2,.string ⟨p3.toArray⟩] 26));rw[HTX.o] at this;exact this)
   ·have hpb:(pe != 0)=true:=by simpa using hpe
    have hpb':(pe==0)=false:=(by simpa using hpe);have HX2:=aB (HX.o hpe);clear HV HX;go_wp2_with fail;clear c0 c1 c2 c3 c4 c5 f0 f1 f2 f3 f4 f5 d0 d1 d2 d3 d4 d5 k0 k1 k2 k3 k4 k5;have hS6:=jC w1 w.heap.size _ _ _ _ _ _ (.int .i64 2) (.int .i64 (n:Int)) (.string ⟨tx.toArray⟩) (.int .i64 0) (.int .i64 0) (S []) 130 hA;have hB6:=nP hB (aH w.heap.size) (.int .i64 2) (.int .i64 (n:Int)) (.string ⟨tx.toArray⟩) (.int .i64 0) (.int .i64 0) (S []);generalize (((((w1.setCell ⟨w.heap.size,0,none⟩ (.int .i64 2)).setCell ⟨w.heap.size,1,none⟩ (.int .i64 (n:Int))).setCell ⟨w.heap.size,2,none⟩ (.string ⟨tx.toArray⟩)).setCell ⟨w.heap.size,3,none⟩ (.int .i64 0)).setCell ⟨w.heap.size,4,none⟩ (.int .i64 0)).setCell ⟨w.heap.size,5,none⟩ (S [])=W6 at *;exact kK (b:=w.heap.size) rfl rfl rfl rfl ((aW W6 _ (aC.1 hS6).1).trans hS6) (mV HX2.o _ _ _ _ _ _ (hB6.alloc _))
  ·have HCUT:Hid (rU (l.drop n)=none):=by show _=_;rw[HCUT0.o,g2.o,if_pos (by simp[hld])]
   have HLD:=aB hld;clear hld;have HO:=aB (uH HCUT.o);go_wp2_with (first
    |(go_at_call 138;(with_reducible refine(iQ d _).mono ?_);rintro e w' ⟨rfl,rfl⟩;rw[HLD.o]))
   exact kK (b:=w.heap.size) rfl rfl rfl rfl (by show(aY (aY w _) _).heap[w.heap.size]?=_;rw[aW _ _ aa,aN]) (mV HO.o _ _ _ _ _ _ (((Bl.refl w).alloc _).alloc _))
 ·have HCUT:Hid (rU (l.drop n)=some (2,m)):=by show _=_;rw[HCUT0.o,List.getElem?_eq_none aE,if_neg aa]
  have hnl:¬((n:Int)+(m:Int)<(l.length:Int)):=aE;go_wp2_with fail;clear hnl;have x5:((n:Int)+(m:Int)).toNat=n+m:=aE;have x6:0<=(n:Int)+(m:Int):=aE;have x7:¬((n:Int)+(m:Int)<0):=aE;have hmid:=xQ l n m
  try(go_wp2_with fail)
  go_region
  clear x5 x6 x7 hmid;have hlt3:((l.drop n).take m).length<=10000:=ab;generalize htx:(l.drop n).take m=tx at *;have HTX:=aB htx;clear htx;have hb0:Bl w (((w.alloc c7m).alloc (.cells #[.int .i64 2,.int .i64 (n:Int),.string ⟨tx.toArray⟩,.int .i64 0,.int .i64 0,S []] 130)).drew):=(((Bl.refl w).alloc _).alloc _).drew;go_wp2_with fail
  (with_reducible refine(uT tx hlt3 _).mono ?_)
  rintro e w1 ⟨he,hb1⟩;unfold mE at he;subst he;have hA:w1.heap[w.heap.size]?=some (.cells #[.int .i64 0,.int .i64 0,S [],.int .i64 0,.int .i64 0,S []] 130 (0,0)):=by
   rw[hb1.block _ bv];show(aY (aY w _) _).heap[w.heap.size]?=_;rw[aW _ _ aa,aN]
  have hT:w1.heap[w.heap.size+1]?=some (.cells #[.int .i64 2,.int .i64 (n:Int),.string ⟨tx.toArray⟩,.int .i64 0,.int .i64 0,S []] 130 (0,0)):=by
   rw[hb1.block _ bz];show(aY (aY w _) _).heap[w.heap.size+1]?=_;rw[aV _ _ aa]
  have hB:Bl w w1:=hb0.call hb1;clear hb0 hb1;have HV:Hid ((dF tx).2.2.2=0->rM fP (l.drop n)=some (2,m,(dF tx).1,(dF tx).2.1,(dF tx).2.2.1)):=by
   intro h;have:=uV HCUT.o be;rw[HTX.o] at this;exact this
  have HX:Hid (¬(dF tx).2.2.2=0->rM fP (l.drop n)=none):=fun h=>zF HCUT.o be;generalize dF tx=pv at *;obtain⟨p1,p2,p3,pe⟩:=pv;simp only at HV HX⊢;obtain⟨⟨c0,c1,c2,c3,c4,c5⟩,⟨f0,f1,f2,f3,f4,f5⟩⟩:=kJ hA;obtain⟨⟨d0,d1,d2,d3,d4,d5⟩,⟨k0,k1,k2,k3,k4,k5⟩⟩:=kJ hT;have hlt8:w.heap.size+1<w1.heap.size:=(aC.1 hT).1;have hltA:w.heap.size<w1.heap.size:=aE;by_cases hpe:pe=0
  ·subst hpe;have HV2:=aB (HV.o rfl);clear HV HX;go_wp2_with fail;clear c0 c1 c2 c3 c4 c5 f0 f1 f2 f3 f4 f5 d0 d1 d2 d3 d4 d5 k0 k1 k2 k3 k4 k5;have hA5:(((w1.setCell ⟨w.heap.size+1,3,none⟩ (.int .i64 p1)).setCell ⟨w.heap.size+1,4,none⟩ (.int .i64 p2)).setCell ⟨w.heap.size+1,5,none⟩ (.string ⟨p3.toArray⟩)).heap[w.heap.size]?=_:=
    (aM _ ⟨w.heap.size+1,5,none⟩ _ _ aa).trans ((aM _ ⟨w.heap.size+1,4,none⟩ _ _ aa).trans ((aM _ ⟨w.heap.size+1,3,none⟩ _ _ aa).trans hA))
   have hB5:Bl w (((w1.setCell ⟨w.heap.size+1,3,none⟩ (.int .i64 p1)).setCell ⟨w.heap.size+1,4,none⟩ (.int .i64 p2)).setCell ⟨w.heap.size+1,5,none⟩ (.string ⟨p3.toArray⟩)):=((hB.set aa _).set aa _).set aa _;generalize ((w1.setCell ⟨w.heap.size+1,3,none⟩ (.int .i64 p1)).setCell ⟨w.heap.size+1,4,none⟩ (.int .i64 p2)).setCell ⟨w.heap.size+1,5,none⟩ (.string ⟨p3.toArray⟩)=W5 at *;have hS6:=jC W5 w.heap.size _ _ _ _ _ _ (.int .i64 2) (.int .i64 (n:Int)) (.string ⟨tx.toArray⟩) (.int .i64 p1) (.int .i64 p2) (.string ⟨p3.toArray⟩) 130 hA5;have hB6:=nP hB5 (aH w.heap.size) (.int .i64 2) (.int .i64 (n:Int)) (.string ⟨tx.toArray⟩) (.int .i64 p1) (.int .i64 p2) (.string ⟨p3.toArray⟩);generalize (((((W5.setCell ⟨w.heap.size,0,none⟩ (.int .i64 2)).setCell ⟨w.heap.size,1,none⟩ (.int .i64 (n:Int))).setCell ⟨w.heap.size,2,none⟩ (.string ⟨tx.toArray⟩)).setCell ⟨w.heap.size,3,none⟩ (.int .i64 p1)).setCell ⟨w.heap.size,4,none⟩ (.int .i64 p2)).setCell ⟨w.heap.size,5,none⟩ (.string ⟨p3.toArray⟩)=W6 at *;exact kK (b:=w.heap.size) rfl rfl rfl rfl ((aW W6 _ (aC.1 hS6).1).trans hS6) (by
    have:=rJ HV2.o (hB6.alloc (.cells #[.int .i64 p1,.int .i64 p2,.string ⟨p3.toArray⟩] 26));rw[HTX.o] at this;exact this)
  ·have hpb:(pe != 0)=true:=by simpa using hpe
   have hpb':(pe==0)=false:=(by simpa using hpe);have HX2:=aB (HX.o hpe);clear HV HX;go_wp2_with fail;clear c0 c1 c2 c3 c4 c5 f0 f1 f2 f3 f4 f5 d0 d1 d2 d3 d4 d5 k0 k1 k2 k3 k4 k5;have hS6:=jC w1 w.heap.size _ _ _ _ _ _ (.int .i64 2) (.int .i64 (n:Int)) (.string ⟨tx.toArray⟩) (.int .i64 0) (.int .i64 0) (S []) 130 hA;have hB6:=nP hB (aH w.heap.size) (.int .i64 2) (.int .i64 (n:Int)) (.string ⟨tx.toArray⟩) (.int .i64 0) (.int .i64 0) (S []);generalize (((((w1.setCell ⟨w.heap.size,0,none⟩ (.int .i64 2)).setCell ⟨w.heap.size,1,none⟩ (.int .i64 (n:Int))).setCell ⟨w.heap.size,2,none⟩ (.string ⟨tx.toArray⟩)).setCell ⟨w.heap.size,3,none⟩ (.int .i64 0)).setCell ⟨w.heap.size,4,none⟩ (.int .i64 0)).setCell ⟨w.heap.size,5,none⟩ (S [])=W6 at *;exact kK (b:=w.heap.size) rfl rfl rfl rfl ((aW W6 _ (aC.1 hS6).1).trans hS6) (mV HX2.o _ _ _ _ _ _ (hB6.alloc _))
end
section
theorem b1s(w:World):cL 138 #[.int .u8 39] w fun e w'=>e= .returned (.bool false)/\w=w':=iQ 39 w
theorem b5n(w:World):cL 140 #[.int .u8 39] w fun e w'=>e= .returned (.bool false)/\w=w':=kH 39 w
theorem a7q(w:World):cL 138 #[.int .u8 120] w fun e w'=>e= .returned (.bool true)/\w=w':=iQ 120 w
theorem b2b(w:World):cL 140 #[.int .u8 120] w fun e w'=>e= .returned (.bool false)/\w=w':=kH 120 w
theorem b1r(l:List UInt8)(n:Nat)(hc:l[n]?=some 39)(hl:l.length<=10000)(w:World):cL 112 #[S l,.int .i64 n] w (c2l l n w):=by
 have hn:=(aO.1 hc).1;have hs:=drop_at hc;have hcut:rU (l.drop n)=(oO (l.drop (n+1))).map fun k=>(2,k+1):=by
  rw[hs,jE,if_neg (by simp[cZ]),if_pos rfl]
 have hby:(⟨l.toArray⟩:ByteArray)[n]' ay=39:=by
  have:=fK l n ay;rw[hc] at this;injection this with this;exact this.symm
 have HCUT0:=aB hcut;have HQ:Hid (a7p l (n+1)=match oO (l.drop (n+1)) with |some k=>((n+1+k:Nat):Int)|none=> -1):=rfl;clear hcut hs hc;go_enter func112,ntmps112;go_wp2_with (first
  |(go_at_call 138;(with_reducible refine(b1s _).mono ?_);rintro e w' ⟨rfl,rfl⟩)
  |(go_at_call 140;(with_reducible refine(b5n _).mono ?_);rintro e w' ⟨rfl,rfl⟩))
 (with_reducible refine(xY l n hn aE _).mono ?_)
 rintro e w' ⟨rfl,rfl⟩;rw[HQ.o];clear hby
 cases hq:oO (l.drop (n+1)) with
 |none=>
  have HO:=aB (uH (s:=l.drop n) (by rw[HCUT0.o,hq];rfl));clear hq;simp only;go_wp2_with fail;exact kK (b:=w.heap.size) rfl rfl rfl rfl (by show(aY (aY w _) _).heap[w.heap.size]?=_;rw[aW _ _ aa,aN]) (mV HO.o _ _ _ _ _ _ (((Bl.refl w).alloc _).alloc _))
 |some k=>
  have hk:=uG _ _ (aH _) _ hq;have hk2:=hk.2;simp at hk2;obtain⟨m,hm⟩:∃m,m=k+1:=⟨_,rfl⟩
  have HCUT:Hid (rU (l.drop n)=some (2,m)):=(by show _=_;rw[HCUT0.o,hq,hm];rfl);have hr1:1<=m:=aE;have hr3:n+m<=l.length:=aE;simp only;rw[show((n+1+k:Nat):Int)=(n:Int)+(m:Int) by omega];clear hq hk hk2 hm HQ HCUT0;have x5:((n:Int)+(m:Int)).toNat=n+m:=aE;have x6:0<=(n:Int)+(m:Int):=aE;have x7:¬((n:Int)+(m:Int)<0):=aE;have hmid:=xQ l n m
  try(go_wp2_with fail)
  go_region
  clear x5 x6 x7 hmid;have hlt3:((l.drop n).take m).length<=10000:=ab;generalize htx:(l.drop n).take m=tx at *;have HTX:=aB htx;clear htx;have hb0:Bl w (((w.alloc c7m).alloc (.cells #[.int .i64 2,.int .i64 (n:Int),.string ⟨tx.toArray⟩,.int .i64 0,.int .i64 0,S []] 130)).drew):=(((Bl.refl w).alloc _).alloc _).drew;go_wp2_with fail
  (with_reducible refine(uT tx hlt3 _).mono ?_)
  rintro e w1 ⟨he,hb1⟩;unfold mE at he;subst he;have hA:w1.heap[w.heap.size]?=some (.cells #[.int .i64 0,.int .i64 0,S [],.int .i64 0,.int .i64 0,S []] 130 (0,0)):=by
   rw[hb1.block _ bv];show(aY (aY w _) _).heap[w.heap.size]?=_;rw[aW _ _ aa,aN]
  have hT:w1.heap[w.heap.size+1]?=some (.cells #[.int .i64 2,.int .i64 (n:Int),.string ⟨tx.toArray⟩,.int .i64 0,.int .i64 0,S []] 130 (0,0)):=by
   rw[hb1.block _ bz];show(aY (aY w _) _).heap[w.heap.size+1]?=_;rw[aV _ _ aa]
  have hB:Bl w w1:=hb0.call hb1;clear hb0 hb1;have HV:Hid ((dF tx).2.2.2=0->rM fP (l.drop n)=some (2,m,(dF tx).1,(dF tx).2.1,(dF tx).2.2.1)):=by
   intro h;have:=uV HCUT.o be;rw[HTX.o] at this;exact this
  have HX:Hid (¬(dF tx).2.2.2=0->rM fP (l.drop n)=none):=fun h=>zF HCUT.o be;generalize dF tx=pv at *;obtain⟨p1,p2,p3,pe⟩:=pv;simp only at HV HX⊢;obtain⟨⟨c0,c1,c2,c3,c4,c5⟩,⟨f0,f1,f2,f3,f4,f5⟩⟩:=kJ hA;obtain⟨⟨d0,d1,d2,d3,d4,d5⟩,⟨k0,k1,k2,k3,k4,k5⟩⟩:=kJ hT;have hlt8:w.heap.size+1<w1.heap.size:=(aC.1 hT).1;have hltA:w.heap.size<w1.heap.size:=aE;by_cases hpe:pe=0
  ·subst hpe;have HV2:=aB (HV.o rfl);clear HV HX;go_wp2_with fail;clear c0 c1 c2 c3 c4 c5 f0 f1 f2 f3 f4 f5 d0 d1 d2 d3 d4 d5 k0 k1 k2 k3 k4 k5;have hA5:(((w1.setCell ⟨w.heap.size+1,3,none⟩ (.int .i64 p1)).setCell ⟨w.heap.size+1,4,none⟩ (.int .i64 p2)).setCell ⟨w.heap.size+1,5,none⟩ (.string ⟨p3.toArray⟩)).heap[w.heap.size]?=_:=
    (aM _ ⟨w.heap.size+1,5,none⟩ _ _ aa).trans ((aM _ ⟨w.heap.size+1,4,none⟩ _ _ aa).trans ((aM _ ⟨w.heap.size+1,3,none⟩ _ _ aa).trans hA))
   have hB5:Bl w (((w1.setCell ⟨w.heap.size+1,3,none⟩ (.int .i64 p1)).setCell ⟨w.heap.size+1,4,none⟩ (.int .i64 p2)).setCell ⟨w.heap.size+1,5,none⟩ (.string ⟨p3.toArray⟩)):=((hB.set aa _).set aa _).set aa _;generalize ((w1.setCell ⟨w.heap.size+1,3,none⟩ (.int .i64 p1)).setCell ⟨w.heap.size+1,4,none⟩ (.int .i64 p2)).setCell ⟨w.heap.size+1,5,none⟩ (.string ⟨p3.toArray⟩)=W5 at *;have hS6:=jC W5 w.heap.size _ _ _ _ _ _ (.int .i64 2) (.int .i64 (n:Int)) (.string ⟨tx.toArray⟩) (.int .i64 p1) (.int .i64 p2) (.string ⟨p3.toArray⟩) 130 hA5;have hB6:=nP hB5 (aH w.heap.size) (.int .i64 2) (.int .i64 (n:Int)) (.string ⟨tx.toArray⟩) (.int .i64 p1) (.int .i64 p2) (.string ⟨p3.toArray⟩);generalize (((((W5.setCell ⟨w.heap.size,0,none⟩ (.int .i64 2)).setCell ⟨w.heap.size,1,none⟩ (.int .i64 (n:Int))).setCell ⟨w.heap.size,2,none⟩ (.string ⟨tx.toArray⟩)).setCell ⟨w.heap.size,3,none⟩ (.int .i64 p1)).setCell ⟨w.heap.size,4,none⟩ (.int .i64 p2)).setCell ⟨w.heap.size,5,none⟩ (.string ⟨p3.toArray⟩)=W6 at *;exact kK (b:=w.heap.size) rfl rfl rfl rfl ((aW W6 _ (aC.1 hS6).1).trans hS6) (by
    have:=rJ HV2.o (hB6.alloc (.cells #[.int .i64 p1,.int .i64 p2,.string ⟨p3.toArray⟩] 26));rw[HTX.o] at this;exact this)
  ·have hpb:(pe != 0)=true:=by simpa using hpe
   have hpb':(pe==0)=false:=(by simpa using hpe);have HX2:=aB (HX.o hpe);clear HV HX;go_wp2_with fail;clear c0 c1 c2 c3 c4 c5 f0 f1 f2 f3 f4 f5 d0 d1 d2 d3 d4 d5 k0 k1 k2 k3 k4 k5;have hS6:=jC w1 w.heap.size _ _ _ _ _ _ (.int .i64 2) (.int .i64 (n:Int)) (.string ⟨tx.toArray⟩) (.int .i64 0) (.int .i64 0) (S []) 130 hA;have hB6:=nP hB (aH w.heap.size) (.int .i64 2) (.int .i64 (n:Int)) (.string ⟨tx.toArray⟩) (.int .i64 0) (.int .i64 0) (S []);generalize (((((w1.setCell ⟨w.heap.size,0,none⟩ (.int .i64 2)).setCell ⟨w.heap.size,1,none⟩ (.int .i64 (n:Int))).setCell ⟨w.heap.size,2,none⟩ (.string ⟨tx.toArray⟩)).setCell ⟨w.heap.size,3,none⟩ (.int .i64 0)).setCell ⟨w.heap.size,4,none⟩ (.int .i64 0)).setCell ⟨w.heap.size,5,none⟩ (S [])=W6 at *;exact kK (b:=w.heap.size) rfl rfl rfl rfl ((aW W6 _ (aC.1 hS6).1).trans hS6) (mV HX2.o _ _ _ _ _ _ (hB6.alloc _))
theorem b5i(l:List UInt8)(n:Nat)(hc:l[n]?=some 120)(hc2:l[n+1]?=some 39)(hl:l.length<=10000)(w:World):cL 112 #[S l,.int .i64 n] w (c2l l n w):=by
 have hn:=(aO.1 hc).1;have hn1:=(aO.1 hc2).1;have hs:=drop_at hc;have hcut:rU (l.drop n)=(oO (l.drop (n+2))).map fun k=>(2,k+2):=by
  rw[hs,jE,if_neg (by rw[head_drop,hc2];simp),if_neg af,if_pos rfl,iI]
 have hby:(⟨l.toArray⟩:ByteArray)[n]' ay=120:=by
  have:=fK l n ay;rw[hc] at this;injection this with this;exact this.symm
 have hby2:(⟨l.toArray⟩:ByteArray)[n+1]'(by rw[size_of_list];exact hn1)=39:=by
  have:=fK l (n+1) (by rw[size_of_list];exact hn1);rw[hc2] at this;injection this with this;exact this.symm
 have x3:((n:Int)+1).toNat=n+1:=aE;have HCUT0:=aB hcut;have HQ:Hid (a7p l (n+1+1)=match oO (l.drop (n+2)) with |some k=>((n+2+k:Nat):Int)|none=> -1):=rfl;have HN1:Hid (((n+1:Nat):Int)=(n:Int)+1):=(by show _=_;simp);clear hcut hs hc hc2;go_enter func112,ntmps112;go_wp2_with (first
  |(go_at_call 138;(with_reducible refine(a7q _).mono ?_);rintro e w' ⟨rfl,rfl⟩)
  |(go_at_call 140;(with_reducible refine(b2b _).mono ?_);rintro e w' ⟨rfl,rfl⟩))
 rw[<-HN1.o]
 (with_reducible refine(xY l (n+1) hn1 aE _).mono ?_)
 rintro e w' ⟨rfl,rfl⟩;rw[HQ.o];clear hby hby2 x3;cases hq:oO (l.drop (n+2)) with
 |none=>
  have HO:=aB (uH (s:=l.drop n) (by rw[HCUT0.o,hq];rfl));clear hq;simp only;go_wp2_with fail;exact kK (b:=w.heap.size) rfl rfl rfl rfl (by show(aY (aY w _) _).heap[w.heap.size]?=_;rw[aW _ _ aa,aN]) (mV HO.o _ _ _ _ _ _ (((Bl.refl w).alloc _).alloc _))
 |some k=>
  have hk:=uG _ _ (aH _) _ hq;have hk2:=hk.2;simp at hk2;obtain⟨m,hm⟩:∃m,m=k+2:=⟨_,rfl⟩
  have HCUT:Hid (rU (l.drop n)=some (2,m)):=(by show _=_;rw[HCUT0.o,hq,hm];rfl);have hr1:1<=m:=aE;have hr3:n+m<=l.length:=aE;simp only;rw[show((n+2+k:Nat):Int)=(n:Int)+(m:Int) by omega];clear hq hk hk2 hm HQ HCUT0;have x5:((n:Int)+(m:Int)).toNat=n+m:=aE;have x6:0<=(n:Int)+(m:Int):=aE;have x7:¬((n:Int)+(m:Int)<0):=aE;have hmid:=xQ l n m
  try(go_wp2_with fail)
  go_region
  clear x5 x6 x7 hmid;have hlt3:((l.drop n).take m).length<=10000:=ab;generalize htx:(l.drop n).take m=tx at *;have HTX:=aB htx;clear htx;have hb0:Bl w (((w.alloc c7m).alloc (.cells #[.int .i64 2,.int .i64 (n:Int),.string ⟨tx.toArray⟩,.int .i64 0,.int .i64 0,S []] 130)).drew):=(((Bl.refl w).alloc _).alloc _).drew;go_wp2_with fail
  (with_reducible refine(uT tx hlt3 _).mono ?_)
  rintro e w1 ⟨he,hb1⟩;unfold mE at he;subst he;have hA:w1.heap[w.heap.size]?=some (.cells #[.int .i64 0,.int .i64 0,S [],.int .i64 0,.int .i64 0,S []] 130 (0,0)):=by
   rw[hb1.block _ bv];show(aY (aY w _) _).heap[w.heap.size]?=_;rw[aW _ _ aa,aN]
  have hT:w1.heap[w.heap.size+1]?=some (.cells #[.int .i64 2,.int .i64 (n:Int),.string ⟨tx.toArray⟩,.int .i64 0,.int .i64 0,S []] 130 (0,0)):=by
   rw[hb1.block _ bz];show(aY (aY w _) _).heap[w.heap.size+1]?=_;rw[aV _ _ aa]
  have hB:Bl w w1:=hb0.call hb1;clear hb0 hb1;have HV:Hid ((dF tx).2.2.2=0->rM fP (l.drop n)=some (2,m,(dF tx).1,(dF tx).2.1,(dF tx).2.2.1)):=by
   intro h;have:=uV HCUT.o be;rw[HTX.o] at this;exact this
  have HX:Hid (¬(dF tx).2.2.2=0->rM fP (l.drop n)=none):=fun h=>zF HCUT.o be;generalize dF tx=pv at *;obtain⟨p1,p2,p3,pe⟩:=pv;simp only at HV HX⊢;obtain⟨⟨c0,c1,c2,c3,c4,c5⟩,⟨f0,f1,f2,f3,f4,f5⟩⟩:=kJ hA;obtain⟨⟨d0,d1,d2,d3,d4,d5⟩,⟨k0,k1,k2,k3,k4,k5⟩⟩:=kJ hT;have hlt8:w.heap.size+1<w1.heap.size:=(aC.1 hT).1;have hltA:w.heap.size<w1.heap.size:=aE;by_cases hpe:pe=0
  ·subst hpe;have HV2:=aB (HV.o rfl);clear HV HX;go_wp2_with fail;clear c0 c1 c2 c3 c4 c5 f0 f1 f2 f3 f4 f5 d0 d1 d2 d3 d4 d5 k0 k1 k2 k3 k4 k5;have hA5:(((w1.setCell ⟨w.heap.size+1,3,none⟩ (.int .i64 p1)).setCell ⟨w.heap.size+1,4,none⟩ (.int .i64 p2)).setCell ⟨w.heap.size+1,5,none⟩ (.string ⟨p3.toArray⟩)).heap[w.heap.size]?=_:=
    (aM _ ⟨w.heap.size+1,5,none⟩ _ _ aa).trans ((aM _ ⟨w.heap.size+1,4,none⟩ _ _ aa).trans ((aM _ ⟨w.heap.size+1,3,none⟩ _ _ aa).trans hA))
   have hB5:Bl w (((w1.setCell ⟨w.heap.size+1,3,none⟩ (.int .i64 p1)).setCell ⟨w.heap.size+1,4,none⟩ (.int .i64 p2)).setCell ⟨w.heap.size+1,5,none⟩ (.string ⟨p3.toArray⟩)):=((hB.set aa _).set aa _).set aa _;generalize ((w1.setCell ⟨w.heap.size+1,3,none⟩ (.int .i64 p1)).setCell ⟨w.heap.size+1,4,none⟩ (.int .i64 p2)).setCell ⟨w.heap.size+1,5,none⟩ (.string ⟨p3.toArray⟩)=W5 at *;have hS6:=jC W5 w.heap.size _ _ _ _ _ _ (.int .i64 2) (.int .i64 (n:Int)) (.string ⟨tx.toArray⟩) (.int .i64 p1) (.int .i64 p2) (.string ⟨p3.toArray⟩) 130 hA5;have hB6:=nP hB5 (aH w.heap.size) (.int .i64 2) (.int .i64 (n:Int)) (.string ⟨tx.toArray⟩) (.int .i64 p1) (.int .i64 p2) (.string ⟨p3.toArray⟩);generalize (((((W5.setCell ⟨w.heap.size,0,none⟩ (.int .i64 2)).setCell ⟨w.heap.size,1,none⟩ (.int .i64 (n:Int))).setCell ⟨w.heap.size,2,none⟩ (.string ⟨tx.toArray⟩)).setCell ⟨w.heap.size,3,none⟩ (.int .i64 p1)).setCell ⟨w.heap.size,4,none⟩ (.int .i64 p2)).setCell ⟨w.heap.size,5,none⟩ (.string ⟨p3.toArray⟩)=W6 at *;exact kK (b:=w.heap.size) rfl rfl rfl rfl ((aW W6 _ (aC.1 hS6).1).trans hS6) (by
    have:=rJ HV2.o (hB6.alloc (.cells #[.int .i64 p1,.int .i64 p2,.string ⟨p3.toArray⟩] 26));rw[HTX.o] at this;exact this)
  ·have hpb:(pe != 0)=true:=by simpa using hpe
   have hpb':(pe==0)=false:=(by simpa using hpe);have HX2:=aB (HX.o hpe);clear HV HX;go_wp2_with fail;clear c0 c1 c2 c3 c4 c5 f0 f1 f2 f3 f4 f5 d0 d1 d2 d3 d4 d5 k0 k1 k2 k3 k4 k5;have hS6:=jC w1 w.heap.size _ _ _ _ _ _ (.int .i64 2) (.int .i64 (n:Int)) (.string ⟨tx.toArray⟩) (.int .i64 0) (.int .i64 0) (S []) 130 hA;have hB6:=nP hB (aH w.heap.size) (.int .i64 2) (.int .i64 (n:Int)) (.string ⟨tx.toArray⟩) (.int .i64 0) (.int .i64 0) (S []);generalize (((((w1.setCell ⟨w.heap.size,0,none⟩ (.int .i64 2)).setCell ⟨w.heap.size,1,none⟩ (.int .i64 (n:Int))).setCell ⟨w.heap.size,2,none⟩ (.string ⟨tx.toArray⟩)).setCell ⟨w.heap.size,3,none⟩ (.int .i64 0)).setCell ⟨w.heap.size,4,none⟩ (.int .i64 0)).setCell ⟨w.heap.size,5,none⟩ (S [])=W6 at *;exact kK (b:=w.heap.size) rfl rfl rfl rfl ((aW W6 _ (aC.1 hS6).1).trans hS6) (mV HX2.o _ _ _ _ _ _ (hB6.alloc _))
theorem b9g(l:List UInt8)(n:Nat)(hn:n<l.length)(hl:l.length<=10000)(w:World):cL 112 #[S l,.int .i64 n] w (c2l l n w):=by
 have hc:l[n]?=some l[n]:=aP hn;generalize l[n]=c at hc;by_cases hx:c=120/\l[n+1]?=some 39
 ·exact b5i l n (by rw[hc,hx.1]) hx.2 hl w
 cases hlet:cZ c with
 |true=>exact b5g l n c hc hl hlet hx w
 |false=>
  cases hdig:dI c with
  |true=>exact b9f l n c hc hl hdig w
  |false=>
   by_cases h39:c=39
   ·subst h39;exact b1r l n hc hl w
   ·exact b5h l n c hc hl hlet hdig h39 w
end
section
theorem a7a.next'{l:List UInt8}{k:Nat}{acc:List Tok}(h:a7a l k acc)(hk:k<l.length){x:Int×Nat×(Int×Int×List UInt8)}(h1:rM fP (l.drop k)=some x):
  a7a l (l.length-(bX false (l.drop (k+x.2.1))).length) (acc++[a3b l k x]):=by
 have hle:=nN h1;have hkl:=hle.2.1;simp at hkl;have hsl:=lT false (l.drop (k+x.2.1));simp at hsl;have:=h.next hk h1;rw[show k+x.2.1+((l.drop (k+x.2.1)).length-(bX false (l.drop (k+x.2.1))).length)=l.length-(bX false (l.drop (k+x.2.1))).length by simp;omega] at this;exact this
theorem c2z(l:List UInt8)(hl:l.length<=1000000)(w:World):cL 111 #[S l,.int .i64 0] w fun e w'=>e= .returned (.int .i64 ((l.length-(bX false l).length:Nat):Int))/\w=w':=by
 have:=a0b l 0 aE hl w;rw[oC] at this;exact this
theorem b5p(l:List UInt8)(h:4000<l.length)(hm:l.length<=9223372036854775807)(w:World):cL 86 #[S l] w (vD l w):=by
 have HE:Hid (bY l=3):=(by show bY l=3;unfold bY;rw[if_pos h]);have hb4:decide (4000<(l.length:Int))=true:=ab;go_enter func86,ntmps86;go_wp2_with fail;go_ret2;exact⟨_,by rw[HE.o];rfl,Bl.refl _,fun ts h0=>by rw[HE.o] at h0;cases h0⟩
theorem a9v(l:List UInt8)(hl:l.length<=4000)(w:World):cL 86 #[S l] w (vD l w):=by
 have hb4:decide (4000<(l.length:Int))=false:=ab;have hst:=a7a.start l;have hk0:=hst.1;go_enter func86,ntmps86;go_wp2_with fail
 (with_reducible refine(c2z l aE _).mono ?_)
 rintro e w1 ⟨rfl,rfl⟩;generalize l.length-(bX false l).length=k0 at *;have HST:=aB hst;clear hst;go_wp2_with fail;go_loopw [4,5] (fun v i wr=>∃(k:Nat) (acc:List Tok),k<=l.length/\i= .int .i64 k/\Hid (a7a l k acc)/\Bl w wr/\wr.ownsRow w.heap.size 130 6 v acc.length (rowOf acc)) (fun _ i _=>l.length-(intOf i).toNat)
 case atStart=>exact⟨k0,[],hk0,rfl,HST.o,Bl.refl w,⟨rfl,.inl ⟨rfl,rfl⟩⟩⟩
 case round=>
  obtain⟨k,acc,hk,rfl,HR,hB,hown⟩:=hrel;have hacc:=HR.o.2.1;obtain⟨i0,hi,hz0,hz1,hz2⟩:=info_parts b6o;by_cases hlt:k<l.length
  ·go_wp2_with fail
   (with_reducible refine(b9g l k hlt aE _).mono ?_)
   rintro e w2 ⟨he,hb2⟩;have hB2:=hB.call hb2;have hown2:=gY hb2 hown;clear hown hb2 hB;cases ho:rM fP (l.drop k) with
   |none=>
    rw[ho] at he;obtain⟨a1,a2,a3,a4,a5,a6,rfl⟩:=he;have HE:Hid (bY l=250):=(by show bY l=250;unfold bY;rw[if_neg aE,if_pos (HR.o.bad hlt ho)]);clear ho;go_wp2_with fail;go_ret2;exact⟨_,by rw[HE.o];rfl,hB2.alloc _,fun ts h0=>by rw[HE.o] at h0;cases h0⟩
   |some x=>
    rw[ho] at he;have hle:=nN ho;have hlx:k+x.2.1<=l.length:=(by have:=hle.2.1;simp at this;omega);have HN:=aB (HR.o.next' hlt ho);clear ho;obtain⟨x1,m,v1,v2,v3⟩:=x;simp only at he HN hlx hle;subst he;generalize htx:(l.drop k).take m=tx at *;have HTX:=aB htx;clear htx;go_wp2_with (at_builtin;refine wpList_append_own _ rfl _ _ 125 rfl w.heap.size 130 i0 (.agg #[.int .i64 0,.int .i64 0,S [],.int .i64 0,.int .i64 0,S []]) 6 64 underlying125 hi hz0 hz1 hz2 rfl af _ _ _ rfl ((hown2.alloc _).alloc _) ⟨w2.heap.size+1,0,none⟩ 1 1 [.int .i64 x1,.int .i64 (k:Int),S tx,.int .i64 v1,.int .i64 v2,S v3] rfl rfl ?c1 ?c2 ?c3 ?c4 ?c5 ?_)
    case c1=>
     intro j u hj
     match j,hj with
     |0,hj=>simp at hj;subst hj;simp[dY,go_sem]
     |1,hj=>simp at hj;subst hj;simp[dY,go_sem]
     |2,hj=>simp at hj;subst hj;simp[dY,go_sem]
     |3,hj=>simp at hj;subst hj;simp[dY,go_sem]
     |4,hj=>simp at hj;subst hj;simp[dY,go_sem]
     |5,hj=>simp at hj;subst hj;simp[dY,go_sem]
    case c2=>intro u hu;simp at hu;rcases hu with rfl|rfl|rfl|rfl|rfl|rfl<;>rfl
    case c3=>unfold maxLen;omega
    case c4=>omega
    case c5=>have:=hB2.size;simp;omega
    intro v' w4 hown4 hgrow _;have hb4':Bl w w4:=iL ((hB2.alloc _).alloc _) hgrow (by have:=hB2.size;simp;omega) (fun j hj=>(hown2.lt j hj).1);have hrow:rowOf acc++[.int .i64 x1,.int .i64 (k:Int),S tx,.int .i64 v1,.int .i64 v2,S v3]=rowOf (acc++[a3b l k (x1,m,v1,v2,v3)]):=by
     rw[uS];simp[a3b,iT,HTX.o]
    rw[hrow] at hown4;have HO:=aB hown4;obtain⟨g4,cap4,rfl⟩:=nG hown4;clear hown4 hgrow hrow hB2 hown2;go_wp2_with fail;have hnm:((k:Int)+(m:Int))=((k+m:Nat):Int):=by simp
    first
     |(with_reducible refine(a0b l (k+m) hlx aE _).mono ?_)
     |(rw[hnm];(with_reducible refine(a0b l (k+m) hlx aE _).mono ?_))
    rintro e w5 ⟨rfl,rfl⟩;have hk5:=HN.o.1;have hgt:k+m<=l.length-(bX false (l.drop (k+m))).length:=(by have:=lT false (l.drop (k+m));simp at this;omega);generalize l.length-(bX false (l.drop (k+m))).length=d at *;clear hnm;go_wp2;go_roundw
    case rel=>exact⟨d,acc++[a3b l k (x1,m,v1,v2,v3)],hk5,rfl,HN.o,hb4',by simpa using HO.o⟩
    case measure=>simp[intOf];omega
  ·obtain rfl:k=l.length:=by omega
   have hdone:=HR.o.done;have HD:=aB hdone;have HE:Hid (bY l=0):=(by show bY l=0;unfold bY;rw[if_neg aE,if_neg (by rw[hdone];simp)]);clear hdone;go_wp2_with (at_builtin;refine wpList_append_own _ rfl _ _ 125 rfl w.heap.size 130 i0 (.agg #[.int .i64 0,.int .i64 0,S [],.int .i64 0,.int .i64 0,S []]) 6 64 underlying125 hi hz0 hz1 hz2 rfl af _ _ _ rfl (hown.alloc _) ⟨wr.heap.size,0,none⟩ 1 1 [.int .i64 4,.int .i64 (l.length:Int),S [],.int .i64 0,.int .i64 0,S []] rfl rfl ?d1 ?d2 ?d3 ?d4 ?d5 ?_)
   case d1=>
    intro j u hj
    match j,hj with
    |0,hj=>simp at hj;subst hj;simp[dY,go_sem]
    |1,hj=>simp at hj;subst hj;simp[dY,go_sem]
    |2,hj=>simp at hj;subst hj;simp[dY,go_sem]
    |3,hj=>simp at hj;subst hj;simp[dY,go_sem]
    |4,hj=>simp at hj;subst hj;simp[dY,go_sem]
    |5,hj=>simp at hj;subst hj;simp[dY,go_sem]
   case d2=>intro u hu;simp at hu;rcases hu with rfl|rfl|rfl|rfl|rfl<;>rfl
   case d3=>unfold maxLen;omega
   case d4=>omega
   case d5=>have:=hB.size;simp;omega
   intro v' w4 hown4 hgrow _;have hb4':Bl w w4:=iL (hB.alloc _) hgrow cD (fun j hj=>(hown.lt j hj).1);have hrow:rowOf acc++[.int .i64 4,.int .i64 (l.length:Int),S [],.int .i64 0,.int .i64 0,S []]=rowOf (acc++[eT l.length]):=by
    rw[uS];simp[eT,iT]
   rw[hrow] at hown4;have HO:=aB hown4;clear hown4 hgrow hrow hB hown;go_wp2_with fail;go_ret2;refine⟨v',by rw[HE.o];rfl,hb4',fun ts _ h1=>?_⟩;rw[HD.o] at h1;injection h1 with h1;subst h1;exact HO.o
theorem a9w(l:List UInt8)(hm:l.length<=9223372036854775807)(w:World):cL 86 #[S l] w (vD l w):=by
 by_cases h:l.length<=4000
 ·exact a9v l h w
 ·exact b5p l aE hm w
end
section
structure iV(W:World)(bs g cap:Nat)(ts:List Tok)(k:Nat):Prop where
 own:W.heap[bs]?=some (.cells #[.slice (some ⟨g,0,none⟩) ts.length cap,.int .i64 (k:Int)] 183 (0,0))
 row:Row W g ts
 lt:k<ts.length
 few:ts.length<=100000
 ne:g≠bs
theorem aU{W:World}{b:Nat}{x0 x1:Value}{t:TypeId}(h:W.heap[b]?=some (.cells #[x0,x1] t (0,0))):W.cell? ⟨b,0,none⟩=some x0/\W.cell? ⟨b,1,none⟩=some x1/\W.frozen? ⟨b,0,none⟩=false/\W.frozen? ⟨b,1,none⟩=false/\b<W.heap.size:=
 ⟨by rw[aG h];rfl,by rw[aG h];rfl,aJ h 0,aJ h 1,(aC.1 h).1⟩
theorem dA{A B C:World}{r:Option Nat}(h:A.grownBy B r)(k:B.grownBy C r):A.grownBy C r:=
 ⟨k.1.trans h.1,k.2.trans h.2,k.3.trans h.3,jH h.4 k.4,fun i hi hr=>(k.5 i (gK hi h.4) hr).trans (h.5 i hi hr)⟩
theorem gI{A B:World}(h:Bl A B)(r:Option Nat):A.grownBy B r:=⟨h.1,h.2,h.3,h.size,fun i hi _=>h.block i hi⟩
theorem qA{A:World}(b o:Nat)(v:Value):A.grownBy (A.setCell ⟨b,o,none⟩ v) (some b):=
 ⟨rfl,rfl,rfl,by simp[dX],fun k _ hk=>fA _ _ _ _ (fun e=>hk (by rw[e]))⟩
theorem dP{A B:World}{r:Option Nat}(h:A.grownBy B r){b:Nat}(o:Nat)(hb:A.heap.size<=b)(v:Value):A.grownBy (B.setCell ⟨b,o,none⟩ v) r:=
 ⟨h.1,h.2,h.3,by simp[dX];exact h.4,fun i hi hr=>(fA _ _ _ _ ab).trans (h.5 i hi hr)⟩
theorem vU{A B:World}{r:Option Nat}(h:A.grownBy B r)(o:Obj):A.grownBy (B.alloc o) r:=
 ⟨h.1,h.2,h.3,by have:=h.4;simp;omega,fun i hi hr=>(aW _ _ (gK hi h.4)).trans (h.5 i hi hr)⟩
theorem b2q{A B:World}{r:Option Nat}(h:A.grownBy B r):A.grownBy B.drew r:=⟨h.1,h.2,h.3,h.4,h.5⟩
theorem b2p{A B:World}{r:Option Nat}(h:A.grownBy B r){b:Nat}(hb:A.heap.size<=b)(y0 y1 y2 y3 y4 y5:Value):
  A.grownBy ((((((B.setCell ⟨b,0,none⟩ y0).setCell ⟨b,1,none⟩ y1).setCell ⟨b,2,none⟩ y2).setCell ⟨b,3,none⟩ y3).setCell ⟨b,4,none⟩ y4).setCell ⟨b,5,none⟩ y5) r:=
 dP (dP (dP (dP (dP (dP h 0 hb _) 1 hb _) 2 hb _) 3 hb _) 4 hb _) 5 hb _
theorem uL(W:World){b i:Nat}(hi:i≠b)(y0 y1 y2 y3 y4 y5:Value):
  ((((((W.setCell ⟨b,0,none⟩ y0).setCell ⟨b,1,none⟩ y1).setCell ⟨b,2,none⟩ y2).setCell ⟨b,3,none⟩ y3).setCell ⟨b,4,none⟩ y4).setCell ⟨b,5,none⟩ y5).heap[i]?=W.heap[i]?:=by
 rw[aM _ ⟨b,5,none⟩ _ _ hi,aM _ ⟨b,4,none⟩ _ _ hi,aM _ ⟨b,3,none⟩ _ _ hi,aM _ ⟨b,2,none⟩ _ _ hi,aM _ ⟨b,1,none⟩ _ _ hi,aM _ ⟨b,0,none⟩ _ _ hi]
theorem iV.keep{W W':World}{bs g cap k:Nat}{ts:List Tok}(h:iV W bs g cap ts k)(h1:W'.heap[bs]?=W.heap[bs]?)(h2:W'.heap[g]?=W.heap[g]?):iV W' bs g cap ts k:=
 ⟨h1.trans h.own,h.row.block h2,h.lt,h.few,h.ne⟩
theorem iV.bl{W W':World}{bs g cap k:Nat}{ts:List Tok}(h:iV W bs g cap ts k)(hb:Bl W W'):iV W' bs g cap ts k:=
 ⟨(hb.block _ (aC.1 h.own).1).trans h.own,h.row.bl hb,h.lt,h.few,h.ne⟩
theorem iV.turn{W:World}{bs g cap k:Nat}{ts:List Tok}(h:iV W bs g cap ts k)(m:Nat)(hm:m<ts.length):iV (W.setCell ⟨bs,1,none⟩ (.int .i64 (m:Int))) bs g cap ts m:=
 ⟨by simp[dX,dC,h.own],h.row.set_other (p:=⟨bs,1,none⟩) h.ne _,hm,h.few,h.ne⟩
theorem Row.at{W:World}{g:Nat}{l:List Tok}(h:Row W g l){j:Nat}{x:Tok}(hx:l[j]?=some x):At6 W g j x:=by
 obtain⟨hj,e⟩:=aO.1 hx;rw[<-e];exact h j hj
theorem sJ{W:World}{bs g cap k:Nat}{ts:List Tok}(h:iV W bs g cap ts k):cL 137 #[.pointer (some ⟨bs,0,none⟩)] W fun e w'=>e= .returned (.bool false)/\W=w':=by
 obtain⟨c0,c1,f0,f1,hlt⟩:=aU h.own;have hn:=h.lt;have hf:=h.few;have hb:((ts.length:Int)==0)=false:=beq_eq_false_iff_ne.2 aE;clear h;go_enter func137,ntmps137;go_wp2;go_ret;exact⟨rfl,rfl⟩
abbrev TVt(x:Tok):Value:=TV x.k x.pos x.t x.v.1 x.v.2.1 x.v.2.2
theorem rH{W:World}{bs g cap k:Nat}{ts:List Tok}(h:iV W bs g cap ts k){x:Tok}(hx:ts[k]?=some x):cL 108 #[.pointer (some ⟨bs,0,none⟩)] W fun e w'=>e= .returned (TVt x)/\Bl W w':=by
 have HN:=aB (h.bl ((Bl.refl W).alloc (.cells #[.int .i64 0,.int .i64 0,S [],.int .i64 0,.int .i64 0,S []] 130)));obtain⟨c0,c1,f0,f1,hlt⟩:=aU h.own;have h6:=h.row.at hx;have hkl:=h.lt;have hfew:=h.few;have hgl:g<W.heap.size:=bB _ _ h6.1;obtain⟨xk,xp,xt,xa,xb,xc⟩:=x;obtain⟨a0,a1,a2,a3,a4,a5⟩:=h6;simp only at a0 a1 a2 a3 a4 a5;clear h hx;go_enter func108,ntmps108;go_wp2_with fail
 (with_reducible refine(sJ HN.o).mono ?_)
 rintro e w' ⟨rfl,rfl⟩;go_wp2_with fail
 go_region
 go_wp2_with fail;exact bodyPost_ret (v:=TV xk xp xt xa xb xc) (by simp[results,results108,go_sem]) rfl ⟨rfl,((Bl.refl W).alloc _).drew⟩
def fT(n k:Nat):Nat:=if k+1<n then k+1 else n-1
theorem wE{n k:Nat}(h:k<n):fT n k<n:=by unfold fT;split<;>omega
theorem yY{W:World}{bs g cap k:Nat}{ts:List Tok}(h:iV W bs g cap ts k){x:Tok}(hx:ts[k]?=some x):cL 136 #[.pointer (some ⟨bs,0,none⟩)] W fun e w'=>e= .returned (TVt x)/\W.grownBy w' (some bs)/\iV w' bs g cap ts (fT ts.length k):=by
 have hb0:Bl W (W.alloc (.cells #[.int .i64 0,.int .i64 0,S [],.int .i64 0,.int .i64 0,S []] 130)):=(Bl.refl W).alloc _;have HN:=aB (h.bl hb0);have hA0:=aN W (.cells #[.int .i64 0,.int .i64 0,S [],.int .i64 0,.int .i64 0,S []] 130);have hkl:=h.lt;have hfew:=h.few;have hbl:bs<W.heap.size:=(aC.1 h.own).1;have HK:Hid (min ((k:Int)+1) ((ts.length:Int)-1)=(fT ts.length k:Int)):=by
  show _=_;unfold fT;split<;>omega
 have HKL:=aB (wE hkl);have hgl:g<W.heap.size:=bB _ _ (h.row k h.lt).1;have HX:=aB hx;clear h hx;obtain⟨xk,xp,xt,xa,xb,xc⟩:=x;go_enter func136,ntmps136;go_wp2_with fail
 (with_reducible refine(rH HN.o HX.o).mono ?_)
 rintro e w1 ⟨rfl,hb1⟩;have hA1:=(hb1.block _ aa).trans hA0;have hz1:W.heap.size<w1.heap.size:=(aC.1 hA1).1;have HS1:=aB (HN.o.bl hb1);have HS2:=aB ((HN.o.bl hb1).bl ((Bl.refl w1).alloc (.cells #[.int .i64 xk,.int .i64 (xp:Int),S xt,.int .i64 xa,.int .i64 xb,S xc] 130)));have hb2:Bl W w1:=hb0.call hb1;clear hA0 hb0 hb1;go_wp2_with fail
 (with_reducible refine(sJ HS2.o).mono ?_)
 rintro e w' ⟨rfl,rfl⟩;obtain⟨c0,c1,f0,f1,hlt⟩:=aU HS1.o.own;obtain⟨⟨d0,d1,d2,d3,d4,d5⟩,⟨k0,k1,k2,k3,k4,k5⟩⟩:=kJ hA1;have x1:IntKind.i64.wrap ((k:Int)+1)=(k:Int)+1:=gW _ aE;have x2:IntKind.i64.wrap ((ts.length:Int)-1)=(ts.length:Int)-1:=gW _ aE;have hne:bs≠W.heap.size:=aE;have hne':W.heap.size≠bs:=aE;go_wp2_with fail
 go_region
 clear x1 x2;go_wp2_with fail;rw[HK.o];clear c0 c1 f0 f1 d0 d1 d2 d3 d4 d5 k0 k1 k2 k3 k4 k5;have s2:=HS1.o.turn _ HKL.o;have hA2:(w1.setCell ⟨bs,1,none⟩ (.int .i64 (fT ts.length k:Int))).heap[W.heap.size]?=_:=(aM _ ⟨bs,1,none⟩ _ _ ab).trans hA1;have g2:W.grownBy (w1.setCell ⟨bs,1,none⟩ (.int .i64 (fT ts.length k:Int))) (some bs):=dA (gI hb2 _) (qA _ _ _);generalize w1.setCell ⟨bs,1,none⟩ (.int .i64 (fT ts.length k:Int))=W2 at *;have hS6:=jC W2 W.heap.size _ _ _ _ _ _ (.int .i64 xk) (.int .i64 (xp:Int)) (.string ⟨xt.toArray⟩) (.int .i64 xa) (.int .i64 xb) (.string ⟨xc.toArray⟩) 130 hA2;have g6:=b2p g2 (aH W.heap.size) (.int .i64 xk) (.int .i64 (xp:Int)) (.string ⟨xt.toArray⟩) (.int .i64 xa) (.int .i64 xb) (.string ⟨xc.toArray⟩);have s6:=s2.keep (uL W2 hne (.int .i64 xk) (.int .i64 (xp:Int)) (.string ⟨xt.toArray⟩) (.int .i64 xa) (.int .i64 xb) (.string ⟨xc.toArray⟩)) (uL W2 (b:=W.heap.size) (i:=g) aE (.int .i64 xk) (.int .i64 (xp:Int)) (.string ⟨xt.toArray⟩) (.int .i64 xa) (.int .i64 xb) (.string ⟨xc.toArray⟩));generalize (((((W2.setCell ⟨W.heap.size,0,none⟩ (.int .i64 xk)).setCell ⟨W.heap.size,1,none⟩ (.int .i64 (xp:Int))).setCell ⟨W.heap.size,2,none⟩ (.string ⟨xt.toArray⟩)).setCell ⟨W.heap.size,3,none⟩ (.int .i64 xa)).setCell ⟨W.heap.size,4,none⟩ (.int .i64 xb)).setCell ⟨W.heap.size,5,none⟩ (.string ⟨xc.toArray⟩)=W6 at *;have hl6:W.heap.size<W6.heap.size:=(aC.1 hS6).1;have hS7:=(aW W6 (.cells #[.int .i64 xk,.int .i64 (xp:Int),.string ⟨xt.toArray⟩,.int .i64 xa,.int .i64 xb,.string ⟨xc.toArray⟩] 130) hl6).trans hS6;have g7:=b2q (vU g6 (.cells #[.int .i64 xk,.int .i64 (xp:Int),.string ⟨xt.toArray⟩,.int .i64 xa,.int .i64 xb,.string ⟨xc.toArray⟩] 130));have s7:=s6.bl ((Bl.refl W6).alloc (.cells #[.int .i64 xk,.int .i64 (xp:Int),.string ⟨xt.toArray⟩,.int .i64 xa,.int .i64 xb,.string ⟨xc.toArray⟩] 130)).drew;have hS8:(W6.alloc (.cells #[.int .i64 xk,.int .i64 (xp:Int),.string ⟨xt.toArray⟩,.int .i64 xa,.int .i64 xb,.string ⟨xc.toArray⟩] 130)).drew.heap[W.heap.size]?=_:=hS7;generalize (W6.alloc (.cells #[.int .i64 xk,.int .i64 (xp:Int),.string ⟨xt.toArray⟩,.int .i64 xa,.int .i64 xb,.string ⟨xc.toArray⟩] 130)).drew=W8 at *;obtain⟨⟨q0,q1,q2,q3,q4,q5⟩,-⟩:=kJ hS8;exact bodyPost_ret (v:=TV xk xp xt xa xb xc) (by simp[results,results136,go_sem,q0,q1,q2,q3,q4,q5]) rfl ⟨rfl,g7,s7⟩
end
section
def fH(x:Tok):Bool:=(x.k==1)&& !kwB x.t
def c0v(W:World)(bs g cap:Nat)(ts:List Tok)(k:Nat)(x:Tok)(e:Ending)(w':World):Prop:=
 W.grownBy w' (some bs)/\((fH x=true/\e= .returned (.tuple #[S x.t,.bool true])/\iV w' bs g cap ts (fT ts.length k))\/(fH x=false/\e= .returned (.tuple #[S [],.bool false])/\iV w' bs g cap ts k))
theorem a5b{W:World}{bs g cap k:Nat}{ts:List Tok}(h:iV W bs g cap ts k){x:Tok}(hx:ts[k]?=some x):cL 107 #[.pointer (some ⟨bs,0,none⟩)] W (c0v W bs g cap ts k x):=by
 have H:=aB h;have HX:=aB hx;have hbl:bs<W.heap.size:=(aC.1 h.own).1;clear h hx;go_enter func107,ntmps107;go_wp2_with fail
 (with_reducible refine(rH H.o HX.o).mono ?_)
 rintro e w1 ⟨rfl,hb1⟩;obtain⟨xk,xp,xt,xa,xb,xc⟩:=x;have hb2:Bl W (w1.alloc (.cells #[.int .i64 xk,.int .i64 (xp:Int),S xt,.int .i64 xa,.int .i64 xb,S xc] 130)):=hb1.alloc _;have HS:=aB (H.o.bl hb2);have hsz1:=hb1.size;by_cases hk1:xk=1
 ·subst hk1;cases hkw:kwB xt
  ·have HN:Hid (fH ⟨1,xp,xt,(xa,xb,xc)⟩=true):=by show _=_;simp[fH,hkw]
   have HKW:=aB hkw;clear hkw;have hT:=aN w1 (.cells #[.int .i64 1,.int .i64 (xp:Int),S xt,.int .i64 xa,.int .i64 xb,S xc] 130);go_wp2_with (first
    |(go_at_call 135;(with_reducible refine(a0v xt _).mono ?_);rintro e w2 ⟨rfl,hb3⟩;rw[HKW.o]))
   have HS3:=aB (HS.o.bl hb3);have hT3:=(hb3.block _ aa).trans hT;have hsz3:=hb3.size;rw[aR] at hsz3
   (with_reducible refine(yY HS3.o HX.o).mono ?_)
   rintro e w4 ⟨rfl,hg4,hs4⟩;have hT4:=(hg4.block _ aE ab).trans hT3;have t2:w4.cell? ⟨w1.heap.size,2,none⟩=some (S xt):=(by rw[aG hT4];rfl);have hg5:=dA (gI (hb2.call hb3) (some bs)) hg4;clear hT hT3 hT4 hb3 hb2 hg4;go_wp2_with fail;go_ret2;exact⟨hg5,.inl ⟨HN.o,rfl,hs4⟩⟩
  ·have HN:Hid (fH ⟨1,xp,xt,(xa,xb,xc)⟩=false):=by show _=_;simp[fH,hkw]
   have HKW:=aB hkw;clear hkw;go_wp2_with (first
    |(go_at_call 135;(with_reducible refine(a0v xt _).mono ?_);rintro e w2 ⟨rfl,hb3⟩;rw[HKW.o]))
   go_ret2;exact⟨gI (hb2.call hb3) _,.inr ⟨HN.o,rfl,HS.o.bl hb3⟩⟩
 ·have hkb:(xk != 1)=true:=by simpa using hk1
  have hkb':(xk==1)=false:=(by simpa using hk1);have HN:Hid (fH ⟨xk,xp,xt,(xa,xb,xc)⟩=false):=(by show _=_;simp[fH,hk1]);clear hk1;go_wp2_with fail;go_ret2;exact⟨gI hb2 _,.inr ⟨HN.o,rfl,HS.o⟩⟩
def xS(W:World)(p:Option Addr):Prop:=p=none\/∃bs,p=some ⟨bs,0,none⟩/\W.heap[bs]?=some (.cells #[.slice none 0 0,.int .i64 0] 183 (0,0))
theorem xS.bl{W W':World}{p:Option Addr}(h:xS W p)(hb:Bl W W'):xS W' p:=by
 rcases h with h|⟨bs,h,h2⟩
 ·exact .inl h
 ·exact .inr ⟨bs,h,(hb.block _ (aC.1 h2).1).trans h2⟩
theorem tZ{W:World}{p:Option Addr}(h:xS W p):cL 137 #[.pointer p] W fun e w'=>e= .returned (.bool true)/\W=w':=by
 rcases h with rfl|⟨bs,rfl,h⟩
 ·go_enter func137,ntmps137;go_wp2;go_ret;exact⟨rfl,rfl⟩
 ·obtain⟨c0,c1,f0,f1,hlt⟩:=aU h;go_enter func137,ntmps137;go_wp2;go_ret;exact⟨rfl,rfl⟩
theorem a1c{W:World}{p:Option Addr}(h:xS W p):cL 108 #[.pointer p] W fun e w'=>e= .returned (TV 0 0 [] 0 0 [])/\Bl W w':=by
 have H:=aB (h.bl ((Bl.refl W).alloc (.cells #[.int .i64 0,.int .i64 0,S [],.int .i64 0,.int .i64 0,S []] 130)));clear h;go_enter func108,ntmps108;go_wp2_with (first
  |(go_at_call 137;(with_reducible refine(tZ H.o).mono ?_);rintro e w' ⟨rfl,rfl⟩))
 exact bodyPost_ret (v:=TV 0 0 [] 0 0 []) (by simp[results,results108,go_sem]) rfl ⟨rfl,(Bl.refl W).alloc _⟩
theorem a9c{W:World}{p:Option Addr}(h:xS W p):cL 107 #[.pointer p] W fun e w'=>e= .returned (.tuple #[S [],.bool false])/\Bl W w':=by
 have H:=aB h;clear h;go_enter func107,ntmps107;go_wp2_with (first
  |(go_at_call 108;(with_reducible refine(a1c H.o).mono ?_);rintro e w1 ⟨rfl,hb1⟩))
 go_ret2;exact⟨rfl,hb1.alloc _⟩
end
section
abbrev RS(g n cap k:Nat):Value:= .agg #[.slice (some ⟨g,0,none⟩) n cap,.int .i64 (k:Int)]
def isB(x:Tok)(s:List UInt8):Bool:=(x.k==1||x.k==3)&&(x.t==s)
theorem b1q(w:World):cL 113 #[] w fun e w'=>e= .returned (.slice (some ⟨w.heap.size,0,none⟩) 61 61)/\w'=w.alloc (.cells kwC 9):=by
 go_enter func113,ntmps113;go_wp2;go_ret;exact⟨rfl,rfl⟩
theorem c6l{x:List UInt8}(h:∀j,j<61->(kwL.getD j []==x)=false):kwB x=false:=by
 unfold kwB;cases hb:kwL.contains x with
 |false=>rfl
 |true=>
  have hm:x∈kwL:=(by simpa using hb);obtain⟨j,hj,e⟩:=List.mem_iff_getElem.1 hm;have h61:j<61:=hj;have:=h j h61;rw[lY,aP hj] at this;simp[e] at this
theorem c3l{x:List UInt8}{j:Nat}(hj:j<61)(h:(kwL.getD j []==x)=true):kwB x=true:=by
 have hj':j<kwL.length:=hj;have e:kwL.getD j []=x:=eq_of_beq h;rw[lY,aP hj'] at e;simp at e;unfold kwB;simp;rw[<-e];exact dS hj'
theorem uE(x:List UInt8)(w:World):cL 87 #[S x] w fun e w'=>e= .returned (.bool (kwB x))/\Bl w w':=by
 have HC:Hid (∀j,j<61->(w.alloc (.cells kwC 9)).cell? ⟨w.heap.size,j,none⟩=some (S (kwL.getD j []))):=by
  intro j hj;rw[aG (aN w _)];exact c1w j hj
 go_enter func87,ntmps87;go_wp2_with fail
 (with_reducible refine(b1q _).mono ?_)
 rintro e w1 ⟨rfl,rfl⟩;have hB:Bl w (w.alloc (.cells kwC 9)):=(Bl.refl w).alloc _;generalize w.alloc (.cells kwC 9)=w1 at *;go_wp2_with fail
 go_loop [4] (fun i=>∃k:Nat,k<=61/\i= .int .i64 k/\Hid (∀j,j<k->j<61->(kwL.getD j []==x)=false)) (fun i=>61-(intOf i).toNat)
 case atStart=>exact⟨0,by omega,rfl,fun j h=>by omega⟩
 case round=>
  obtain⟨k,hk,rfl,HN⟩:=hrel;by_cases hlt:k<61
  ·have hcell:=HC.o k hlt;have HY:Hid ((kwL.getD k []==x)=true->kwB x=true):=fun h=>c3l hlt h;have HZ:Hid ((kwL.getD k []==x)=false->∀j,j<k+1->j<61->(kwL.getD j []==x)=false):=fun h j h1 h2=>by
    by_cases e:j=k
    ·rw[e];exact h
    ·exact HN.o j aE h2
   generalize kwL.getD k []=y at *;cases he:(y==x)
   ·have HQ:=aB (HZ.o he);go_wp2
    go_round
    case rel=>exact⟨k+1,by omega,by go_num,HQ.o⟩
    case measure=>simp[intOf];omega
   ·have HQ:=aB (HY.o he);go_wp2;go_ret;exact⟨nX HQ.o.symm,hB⟩
  ·obtain rfl:k=61:=by omega
   have HQ:=aB (c6l (fun j hj=>HN.o j hj hj));go_wp2;go_ret;exact⟨nX HQ.o.symm,hB⟩
end
section
theorem uA(W:World)(o1 o2 o3:Obj):(((W.alloc o1).alloc o2).alloc o3).heap[W.heap.size]?=some o1:=by
 rw[aW _ _ ab,aW _ _ aa,aN]
theorem oZ(W:World)(o1 o2 o3:Obj):(((W.alloc o1).alloc o2).alloc o3).heap[W.heap.size+1]?=some o2:=by
 rw[aW _ _ aa,aV _ _ aa]
def bH(ts:List Tok):Nat->List (List UInt8)->Option Nat
 |k,[]=>some k
 |k,s::r=>match ts[k]? with
  |some x=>if isB x s then bH ts (fT ts.length k) r else none
  |none=>none
theorem nK{ts:List Tok}{k:Nat}{x:Tok}(hx:ts[k]?=some x)(s:List UInt8)(r:List (List UInt8)):bH ts k (s::r)=if isB x s then bH ts (fT ts.length k) r else none:=by
 simp only[bH,hx]
def Strs(W:World)(sv:Value)(xs:List (List UInt8)):Prop:=
 ∃a cap,sv= .slice a xs.length cap/\∀j,(h:j<xs.length)->∃b off,a=some ⟨b,off,none⟩/\W.cell? ⟨b,off+j,none⟩=some (S xs[j])
theorem Strs.bl{W W':World}(hb:Bl W W'){sv:Value}{xs:List (List UInt8)}(h:Strs W sv xs):Strs W' sv xs:=by
 obtain⟨a,cap,e,hc⟩:=h;refine⟨a,cap,e,fun j hj=>?_⟩;obtain⟨b,off,e2,c⟩:=hc j hj;exact⟨b,off,e2,hb.cell c⟩
theorem Strs.shape{W:World}{sv:Value}{xs:List (List UInt8)}(h:Strs W sv xs):∃a cap,sv= .slice a xs.length cap/\∀j,(h:j<xs.length)->∃b off,a=some ⟨b,off,none⟩/\W.cell? ⟨b,off+j,none⟩=some (S xs[j]):=h
end
section
end
section
end
section
inductive Ex where
 |mk (k:Int) (v:Int×Int×List UInt8) (t n:List UInt8) (o:Int) (args:List Ex)
def Ex.k:Ex->Int| .mk k _ _ _ _ _=>k
def Ex.v:Ex->Int×Int×List UInt8| .mk _ v _ _ _ _=>v
def Ex.t:Ex->List UInt8| .mk _ _ t _ _ _=>t
def Ex.n:Ex->List UInt8| .mk _ _ _ n _ _=>n
def Ex.o:Ex->Int| .mk _ _ _ _ o _=>o
def Ex.args:Ex->List Ex| .mk _ _ _ _ _ l=>l
def bI:Int->List UInt8
 |1=>[43]
 |2=>[45]
 |3=>[42]
 |4=>[47]
 |5=>[37]
 |6=>[124,124]
 |7=>[61]
 |8=>[60,62]
 |9=>[60]
 |10=>[60,61]
 |11=>[62]
 |12=>[62,61]
 |13=>[97,110,100]
 |14=>[111,114]
 |15=>[45]
 |16=>[110,111,116]
 |17=>[105,115,32,110,117,108,108]
 |18=>[105,115,32,110,111,116,32,110,117,108,108]
 |19=>[108,101,110,103,116,104]
 |20=>[97,98,115]
 |_=>[]
def fJ(o:Int):Nat:=if 1<=o/\o<=14 then 2 else if 15<=o/\o<=20 then 1 else 0
def gX:List UInt8:=[99,111,117,110,116]
def c1m:List UInt8:=[115,117,109]
def c1n:List UInt8:=[109,105,110]
def c1o:List UInt8:=[109,97,120]
def bZ:List UInt8:=[99,111,97,108,101,115,99,101]
def qL:List UInt8:=[108,101,110,103,116,104]
def b8b:List UInt8:=[97,98,115]
def rW:List UInt8:=[110,111,116]
def sIs:List UInt8:=[105,115]
def gN:List UInt8:=[110,117,108,108]
def kE:List UInt8:=[102,97,108,115,101]
def nW:List UInt8:=[116,114,117,101]
def gP:List (List UInt8):=[gX,c1m,c1n,c1o]
inductive Res where
 |o
 |bad (e:Int)
 |good (k:Nat) (x:Ex)
def Res.bind:Res->(Nat->Ex->Res)->Res
 | .o,_=> .o
 | .bad e,_=> .bad e
 | .good k x,f=>f k x
def opE(o:Int)(l:List Ex):Ex:= .mk 3 (0,0,[]) [] [] o l
def b3v(v:Int×Int×List UInt8):Ex:= .mk 1 v [] [] 0 []
def b3w(t n:List UInt8):Ex:= .mk 2 (0,0,[]) t n 0 []
def zeroE:Ex:= .mk 0 (0,0,[]) [] [] 0 []
def dZ:Nat->List Int
 |0=>[14]
 |1=>[13]
 |3=>[7,8,9,10,11,12]
 |4=>[6]
 |5=>[1,2]
 |6=>[3,4,5]
 |_=>[]
def fI(ts:List Tok)(k:Nat):List Int->Option (Int×Nat)
 |[]=>none
 |o::r=>match bH ts k [bI o] with
  |some k'=>some (o,k')
  |none=>fI ts k r
def mM(ts:List Tok)(k:Nat):Option (List UInt8×Nat):=match ts[k]? with
 |some x=>if fH x then some (x.t,fT ts.length k) else none
 |none=>none
inductive Job where
 |rd (n k d:Nat)
 |lp (n k d:Nat) (x:Ex)
 |args (nm:List UInt8) (k d:Nat) (acc:List Ex)
def fB(d:Nat)(r:Res):Res:=if d<60 then r else .bad 260
def qO(nm:List UInt8)(l:List Ex):Ex:=
 if nm=qL then opE 19 l else if nm=b8b then opE 20 l else if nm=bZ then .mk 4 (0,0,[]) [] [] 0 l else .mk 5 (0,0,[]) [] nm 0 l
def tO(nm:List UInt8):Bool:=nm==qL||nm==b8b||nm==bZ||gP.contains nm
def iW(ts:List Tok)(run:Job->Res)(nm:List UInt8)(k d:Nat):Res:=
 if tO nm=false then .bad 261
 else if nm=gX then match bH ts k [[42],[41]] with
  |some k'=> .good k' (qO nm [])
  |none=>run (.args nm k d [])
 else run (.args nm k d [])
def fZ(ts:List Tok)(k:Nat):List (List UInt8×Int)->Option (Nat×Int)
 |[]=>none
 |(s,i)::r=>match bH ts k [s] with
  |some k'=>some (k',i)
  |none=>fZ ts k r
def kV(ts:List Tok)(run:Job->Res)(k d:Nat):Res:=match ts[k]? with
 |none=> .o
 |some x=>if x.k=2 then .good (fT ts.length k) (b3v x.v)
  else match fZ ts k [(kE,0),(nW,1),(gN,2)] with
   |some (k',i)=> .good k' (b3v (ofK i,ofN i,[]))
   |none=>match bH ts k [[40]] with
    |some k'=>(fB d (run (.rd 0 k' (d+1)))).bind fun k2 y=>match bH ts k2 [[41]] with
     |some k3=> .good k3 y
     |none=> .bad 261
    |none=>match mM ts k with
     |none=> .bad 261
     |some (nm,k1)=>match bH ts k1 [[40]] with
      |some k2=>iW ts run nm k2 d
      |none=>match bH ts k1 [[46]] with
       |some k2=>match mM ts k2 with
        |none=> .bad 261
        |some (c,k3)=> .good k3 (b3w nm c)
       |none=> .good k1 (b3w [] nm)
def a4k(ts:List Tok)(run:Job->Res)(k d:Nat):Res:=
 (run (.rd 4 k d)).bind fun k1 x=>match fI ts k1 (dZ 3) with
  |some (o,k2)=>(run (.rd 4 k2 d)).bind fun k3 y=> .good k3 (opE o [x,y])
  |none=>match bH ts k1 [sIs,gN] with
   |some k2=> .good k2 (opE 17 [x])
   |none=>match bH ts k1 [sIs,rW,gN] with
    |some k2=> .good k2 (opE 18 [x])
    |none=> .good k1 x
def nI(ts:List Tok)(run:Job->Res):Job->Res
 | .rd n k d=>
  if n=2 then match bH ts k [rW] with
   |some k'=>(fB d (run (.rd 2 k' (d+1)))).bind fun k2 y=> .good k2 (opE 16 [y])
   |none=>run (.rd 3 k d)
  else if n=7 then match bH ts k [[45]] with
   |some k'=>(fB d (run (.rd 7 k' (d+1)))).bind fun k2 y=> .good k2 (opE 15 [y])
   |none=>kV ts run k d
  else if n=3 then a4k ts run k d
  else(run (.rd (n+1) k d)).bind fun k1 x=>run (.lp n k1 d x)
 | .lp n k d x=>match fI ts k (dZ n) with
  |none=> .good k x
  |some (o,k')=>(run (.rd (n+1) k' d)).bind fun k2 y=>run (.lp n k2 d (opE o [x,y]))
 | .args nm k d acc=>(fB d (run (.rd 0 k (d+1)))).bind fun k1 x=>
  match(if nm=bZ then bH ts k1 [[44]] else none) with
  |some k2=>run (.args nm k2 d (acc++[x]))
  |none=>match bH ts k1 [[41]] with
   |some k2=> .good k2 (qO nm (acc++[x]))
   |none=> .bad 261
def dW(ts:List Tok):Nat->Job->Res
 |0,_=> .o
 |f+1,j=>nI ts (dW ts f) j
end
section
def mO(s:List UInt8):Bool:=if 4000<s.length then false else match jQ s with
 |some [x]=>fH x&&(x.t==s)
 |_=>false
def dV(k:Int)(v:Int×Int×List UInt8)(t n:List UInt8)(o:Int)(args:List Ex):Bool:=
 if k=1 then(t==[]&&n==[]&&o==0&&args.isEmpty)&&(chk v.1 v.2.1 v.2.2==0)&&(v.1 != 2||decide (0<=v.2.1))
 else if k=2 then(v==(0,0,[])&&o==0&&args.isEmpty)&&mO n&&(t==[]||mO t)
 else if k=3 then(v==(0,0,[])&&t==[]&&n==[])&&decide (1<=o/\o<=20)&&args.length==fJ o
 else if k=4 then(v==(0,0,[])&&t==[]&&n==[]&&o==0)&& !args.isEmpty
 else if k=5 then(v==(0,0,[])&&t==[]&&o==0)&&gP.contains n&&(args.length==1||args.isEmpty&&n==gX)
 else false
def a9r(x:Ex):Bool:=dV x.k x.v x.t x.n x.o x.args
mutual
def eH:Ex->Bool
 | .mk k v t n o args=>a9r (.mk k v t n o args)&&a0t args
def a0t:List Ex->Bool
 |[]=>true
 |x::r=>eH x&&a0t r
end
theorem vY(l:List Ex):a0t l=l.all eH:=by
 induction l with
 |nil=>simp[a0t]
 |cons x r ih=>simp[a0t,ih]
abbrev EV(k:Int)(v:Int×Int×List UInt8)(t n:List UInt8)(o:Int)(sv:Value):Value:= .agg #[.int .i64 k,.int .i64 v.1,.int .i64 v.2.1,S v.2.2,S t,S n,.int .i64 o,sv]
def At8(W:World)(b o:Nat)(x:Ex)(sv:Value):Prop:=
 W.cell? ⟨b,o,none⟩=some (.int .i64 x.k)/\W.cell? ⟨b,o+1,none⟩=some (.int .i64 x.v.1)/\W.cell? ⟨b,o+2,none⟩=some (.int .i64 x.v.2.1)/\W.cell? ⟨b,o+3,none⟩=some (S x.v.2.2)/\
 W.cell? ⟨b,o+4,none⟩=some (S x.t)/\W.cell? ⟨b,o+5,none⟩=some (S x.n)/\W.cell? ⟨b,o+6,none⟩=some (.int .i64 x.o)/\W.cell? ⟨b,o+7,none⟩=some sv
theorem At8.keep{W W':World}{b o:Nat}{x:Ex}{sv:Value}(h:At8 W b o x sv)(hk:W'.heap[b]?=W.heap[b]?):At8 W' b o x sv:=by
 have c:∀o v,W.cell? ⟨b,o,none⟩=some v->W'.cell? ⟨b,o,none⟩=some v:=fun o v hv=>(by rw[jV (w:=W) hk];exact hv);obtain⟨h0,h1,h2,h3,h4,h5,h6,h7⟩:=h;exact⟨c _ _ h0,c _ _ h1,c _ _ h2,c _ _ h3,c _ _ h4,c _ _ h5,c _ _ h6,c _ _ h7⟩
inductive gU (W:World):Value->List Ex->Prop where
 |mk (a:Option Addr) (cap:Nat) (l:List Ex) (s:Nat->Value) (h1:∀j x,l[j]?=some x->∃b off,a=some ⟨b,off,none⟩/\At8 W b (off+j * 8) x (s j)) (h2:∀j x,l[j]?=some x->gU W (s j) x.args):gU W (.slice a l.length cap) l
def eO(W:World)(x:Ex)(v:Value):Prop:=∃sv,v=EV x.k x.v x.t x.n x.o sv/\gU W sv x.args
theorem gU.keep{W W':World}(hk:∀b o v,W.cell? ⟨b,o+7,none⟩=some v->W'.heap[b]?=W.heap[b]?){sv:Value}{l:List Ex}(h:gU W sv l):gU W' sv l:=by
 induction h with
 |mk a cap l s h1 _ ih=>
  refine .mk a cap l s (fun j x hx=>?_) ih;obtain⟨b,off,e,h8⟩:=h1 j x hx;exact⟨b,off,e,h8.keep (hk b _ _ h8.2.2.2.2.2.2.2)⟩
theorem gU.bl{W W':World}(hb:Bl W W'){sv:Value}{l:List Ex}(h:gU W sv l):gU W' sv l:=
 h.keep fun b o v hc=>hb.block b (by have:=bB _ _ hc;simpa using this)
theorem eO.bl{W W':World}(hb:Bl W W'){x:Ex}{v:Value}(h:eO W x v):eO W' x v:=by
 obtain⟨sv,e,h⟩:=h;exact⟨sv,e,h.bl hb⟩
theorem gU.grown{W W':World}{bs:Nat}{c0 c1:Value}{t:TypeId}(h2:W.heap[bs]?=some (.cells #[c0,c1] t (0,0)))(hg:W.grownBy W' (some bs)){sv:Value}{l:List Ex}(h:gU W sv l):gU W' sv l:=
 h.keep fun b o v hc=>hg.block b (by have:=bB _ _ hc;simpa using this) (fun e=>by
  injection e with e;subst e;rw[aG h2] at hc;simp at hc)
theorem eO.grown{W W':World}{bs:Nat}{c0 c1:Value}{t:TypeId}(h2:W.heap[bs]?=some (.cells #[c0,c1] t (0,0)))(hg:W.grownBy W' (some bs)){x:Ex}{v:Value}(h:eO W x v):eO W' x v:=by
 obtain⟨sv,e,h⟩:=h;exact⟨sv,e,h.grown h2 hg⟩
theorem gU.nil(W:World)(a:Option Addr)(cap:Nat):gU W (.slice a 0 cap) []:= .mk a cap [] (fun _=> .slice none 0 0) (fun j x h=>by simp at h) (fun j x h=>by simp at h)
end
section
def lC(ts:List Tok):Prop:=∀k x,ts[k]?=some x->k+1=ts.length->x.k=4
def Job.at:Job->Nat
 | .rd _ k _=>k
 | .lp _ k _ _=>k
 | .args _ k _ _=>k
def Job.rank:Job->Nat
 | .rd n _ _=>12-n
 | .lp _ _ _ _=>1
 | .args _ _ _ _=>13
def Job.most(ts:List Tok)(j:Job):Nat:=(ts.length-j.at) * 20+j.rank
def Job.past(j:Job)(k:Nat):Prop:=match j with
 | .rd _ k0 _=>k0<k
 | .lp _ k0 _ _=>k0<=k
 | .args _ k0 _ _=>k0<k
def Ends(ts:List Tok)(j:Job):Res->Prop
 | .o=>False
 | .bad _=>True
 | .good k _=>j.past k/\k<ts.length
theorem Ends.bind{ts:List Tok}{i j:Job}{r:Res}{g:Nat->Ex->Res}(h:Ends ts i r)(hg:∀k x,r= .good k x->k<ts.length->i.past k->Ends ts j (g k x)):Ends ts j (r.bind g):=by
 cases r with
 |o=>exact h.elim
 |bad e=>exact trivial
 |good k x=>exact hg k x rfl h.2 h.1
end
section
abbrev kG:Type:=Int×List UInt8×(Int×Int×List UInt8)
def bt(s:List UInt8):Option (List kG):=(toks fP 0 s).map (List.map Tok.bare)
def yL(r:List UInt8):Prop:=Stops jP r/\r.head?≠some 39
theorem yL.nil:yL []:=⟨fun c h=>by simp at h,by simp⟩
theorem yL.of{c:UInt8}(r:List UInt8)(h:jP c=false)(h':c≠39):yL (c::r):=⟨fun d hd=>by simp at hd;subst hd;exact h,by simpa using h'⟩
def a7z(o:Int):kG:=(if 13<=o then 1 else 3,bI o,(0,0,[]))
def oW(v:Int×Int×List UInt8):kG:=if v.1=0\/v.1=1 then(1,lit v.1 v.2.1 v.2.2,(0,0,[])) else(2,lit v.1 v.2.1 v.2.2,v)
end
section
def sg(c:UInt8):kG:=(3,[c],(0,0,[]))
def wd(s:List UInt8):kG:=(1,s,(0,0,[]))
def lJ:List (List kG)->List kG
 |[]=>[]
 |[x]=>x
 |x::r=>x++sg 44::lJ r
def wY(f:List UInt8)(l:List kG):List kG:=wd f::sg 40::(l++[sg 41])
def wR(o:Int):List kG:=if o=17 then[wd sIs,wd gN] else[wd sIs,wd rW,wd gN]
def b5u(o:Int):kG:=if o=15 then sg 45 else wd rW
def b4p(k:Int)(v:Int×Int×List UInt8)(t n:List UInt8)(o:Int)(l:List (List kG)):List kG:=
 if k=1 then[oW v]
 else if k=2 then(if t=[] then[wd n] else[wd t,sg 46,wd n])
 else if k=4 then wY bZ (lJ l)
 else if k=5 then wY n (if l=[] then[sg 42] else lJ l)
 else if fJ o=2 then sg 40::(l.getD 0 []++a7z o::(l.getD 1 []++[sg 41]))
 else if o=19\/o=20 then wY (bI o) (lJ l)
 else if o=17\/o=18 then sg 40::(l.getD 0 []++(wR o++[sg 41]))
 else sg 40::b5u o::(l.getD 0 []++[sg 41])
mutual
def tkE:Ex->List kG
 | .mk k v t n o args=>b4p k v t n o (c5s args)
def c5s:List Ex->List (List kG)
 |[]=>[]
 |x::r=>tkE x::c5s r
end
inductive Fits:Ex->Prop where
 |mk (k:Int) (v:Int×Int×List UInt8) (t n:List UInt8) (o:Int) (args:List Ex) (h:I64 v.2.1) (ha:∀y,y∈args->Fits y):Fits (.mk k v t n o args)
end
section
def Rest(ts:List Tok)(k:Nat)(m:List kG):Prop:=(ts.map Tok.bare).drop k=m
def bIs(b:kG)(s:List UInt8):Bool:=(b.1==1||b.1==3)&&b.2.1==s
theorem b7p(x:Tok)(s:List UInt8):isB x s=bIs x.bare s:=rfl
theorem Rest.head{ts:List Tok}{k:Nat}{b:kG}{m:List kG}(h:Rest ts k (b::m)):∃x,ts[k]?=some x/\x.bare=b:=by
 unfold Rest at h;have h0:((ts.map Tok.bare).drop k)[0]?=some b:=(by rw[h];rfl);rw[iE,Nat.add_zero,iJ] at h0;exact aT.1 h0
theorem Rest.lt{ts:List Tok}{k:Nat}{b:kG}{m:List kG}(h:Rest ts k (b::m)):k+m.length+1=ts.length:=by
 unfold Rest at h;have:=congrArg lV h;simp at this;omega
theorem Rest.next{ts:List Tok}{k:Nat}{b:kG}{m:List kG}(h:Rest ts k (b::m))(hm:m≠[]):fT ts.length k=k+1:=by
 have:=h.lt;have:0<m.length:=qH.2 hm;unfold fT;rw[if_pos aE]
theorem sK{ts:List Tok}{k:Nat}{b:kG}{m:List kG}(h:Rest ts k (b::m))(hm:m≠[]){s:List UInt8}(hb:bIs b s=true)(l:List (List UInt8)):bH ts k (s::l)=bH ts (k+1) l:=by
 obtain⟨x,hx,rfl⟩:=h.head;rw[nK hx,b7p,hb,if_pos rfl,h.next hm]
theorem take_one{ts:List Tok}{k:Nat}{b:kG}{m:List kG}(h:Rest ts k (b::m))(hm:m≠[]){s:List UInt8}(hb:bIs b s=true):bH ts k [s]=some (k+1):=sK h hm hb []
def c4d(b:kG):Prop:=bIs b [40]=false/\bIs b [46]=false
def Ev(P:Nat->Prop):Prop:=∃f0,∀f,f0<=f->P f
theorem Ev.and{P Q:Nat->Prop}(h:Ev P)(k:Ev Q):Ev fun f=>P f/\Q f:=by
 obtain⟨a,h⟩:=h;obtain⟨b,k⟩:=k;exact⟨a+b,fun f hf=>⟨h f aE,k f aE⟩⟩
theorem Ev.mono{P Q:Nat->Prop}(h:Ev P)(k:∀f,P f->Q f):Ev Q:=by
 obtain⟨a,h⟩:=h;exact⟨a,fun f hf=>k f (h f hf)⟩
theorem Ev.of{P:Nat->Prop}(h:∀f,P f):Ev P:=⟨0,fun f _=>h f⟩
theorem Ev.step{ts:List Tok}{j:Job}{r:Res}(h:Ev fun f=>nI ts (dW ts f) j=r):Ev fun f=>dW ts f j=r:=by
 obtain⟨a,h⟩:=h;refine⟨a+1,fun f hf=>?_⟩;obtain⟨g,rfl⟩:∃g,f=g+1:=⟨f-1,by omega⟩
 exact h g aE
def Alone(dp:Nat)(x:Ex):Prop:=∀(ts:List Tok) (k d:Nat) (b:kG) (m:List kG),Rest ts k (tkE x++b::m)->c4d b->d+dp<=60->Ev fun f=>kV ts (dW ts f) k d= .good (k+(tkE x).length) x
end
section
end
section
theorem Alone.mono{a b:Nat}{x:Ex}(h:Alone a x)(hab:a<=b):Alone b x:=fun ts k d c m hr he hd=>h ts k d c m hr he aE
end
section
def qD(x:Ex)(sv:Value):List Value:=[.int .i64 x.k,.int .i64 x.v.1,.int .i64 x.v.2.1,S x.v.2.2,S x.t,S x.n,.int .i64 x.o,sv]
theorem yI{W:World}{b o:Nat}{x:Ex}{sv:Value}(h:∀i,i<8->W.cell? ⟨b,o+i,none⟩=(qD x sv)[i]?):At8 W b o x sv:=
 ⟨h 0 aE,h 1 aE,h 2 aE,h 3 aE,h 4 aE,h 5 aE,h 6 aE,h 7 aE⟩
end
section
theorem a4t{s:List UInt8}{ts:List Tok}(_h:jQ s=some ts):lC (ts++[eT s.length]):=by
 intro k x hx hk;have:k=ts.length:=(by simpa using hk);subst this;simp at hx;subst hx;rfl
def tl(s:List UInt8)(ts:List Tok):List Tok:=ts++[eT s.length]
def steps(ts:List Tok):Nat:=ts.length * 20+100
end
section
abbrev set8(W:World)(b:Nat)(y0 y1 y2 y3 y4 y5 y6 y7:Value):World:=(((((((W.setCell ⟨b,0,none⟩ y0).setCell ⟨b,1,none⟩ y1).setCell ⟨b,2,none⟩ y2).setCell ⟨b,3,none⟩ y3).setCell ⟨b,4,none⟩ y4).setCell ⟨b,5,none⟩ y5).setCell ⟨b,6,none⟩ y6).setCell ⟨b,7,none⟩ y7
theorem bO{w:World}{b:Nat}{x0 x1 x2 x3 x4 x5 x6 x7:Value}{t:TypeId}(h:w.heap[b]?=some (.cells #[x0,x1,x2,x3,x4,x5,x6,x7] t (0,0)))(y0 y1 y2 y3 y4 y5 y6 y7:Value):
  (set8 w b y0 y1 y2 y3 y4 y5 y6 y7).heap[b]?=some (.cells #[y0,y1,y2,y3,y4,y5,y6,y7] t (0,0)):=by
 simp[set8,dX,dC,h]
theorem qY{w W:World}{b:Nat}(h:Bl w W)(hb:w.heap.size<=b)(y0 y1 y2 y3 y4 y5 y6 y7:Value):Bl w (set8 W b y0 y1 y2 y3 y4 y5 y6 y7):=
 (((((((h.set hb _).set hb _).set hb _).set hb _).set hb _).set hb _).set hb _).set hb _
theorem eight{W:World}{b:Nat}{x0 x1 x2 x3 x4 x5 x6 x7:Value}{t:TypeId}(h:W.heap[b]?=some (.cells #[x0,x1,x2,x3,x4,x5,x6,x7] t (0,0))):
  (W.cell? ⟨b,0,none⟩=some x0/\W.cell? ⟨b,1,none⟩=some x1/\W.cell? ⟨b,2,none⟩=some x2/\W.cell? ⟨b,3,none⟩=some x3/\W.cell? ⟨b,4,none⟩=some x4/\W.cell? ⟨b,5,none⟩=some x5/\W.cell? ⟨b,6,none⟩=some x6/\W.cell? ⟨b,7,none⟩=some x7)/\
  (W.frozen? ⟨b,0,none⟩=false/\W.frozen? ⟨b,1,none⟩=false/\W.frozen? ⟨b,2,none⟩=false/\W.frozen? ⟨b,3,none⟩=false/\W.frozen? ⟨b,4,none⟩=false/\W.frozen? ⟨b,5,none⟩=false/\W.frozen? ⟨b,6,none⟩=false/\W.frozen? ⟨b,7,none⟩=false):=
 ⟨⟨by rw[aG h];rfl,by rw[aG h];rfl,by rw[aG h];rfl,by rw[aG h];rfl,by rw[aG h];rfl,by rw[aG h];rfl,by rw[aG h];rfl,by rw[aG h];rfl⟩,
  ⟨aJ h 0,aJ h 1,aJ h 2,aJ h 3,aJ h 4,aJ h 5,aJ h 6,aJ h 7⟩⟩
inductive bG (p:Nat->Prop) (W:World):Value->List Ex->Prop where
 |mk (a:Option Addr) (cap:Nat) (l:List Ex) (s:Nat->Value) (h1:∀j x,l[j]?=some x->∃b off,a=some ⟨b,off,none⟩/\p b/\At8 W b (off+j * 8) x (s j)) (h2:∀j x,l[j]?=some x->bG p W (s j) x.args):bG p W (.slice a l.length cap) l
def gM(p:Nat->Prop)(W:World)(x:Ex)(v:Value):Prop:=∃sv,v=EV x.k x.v x.t x.n x.o sv/\bG p W sv x.args
abbrev tT(n:Nat):World->Value->List Ex->Prop:=bG fun b=>n<=b
abbrev pU(n:Nat):World->Ex->Value->Prop:=gM fun b=>n<=b
theorem bG.keep{p q:Nat->Prop}{W W':World}(hm:∀b,p b->q b)(hk:∀b,p b->b<W.heap.size->W'.heap[b]?=W.heap[b]?){sv:Value}{l:List Ex}(h:bG p W sv l):bG q W' sv l:=by
 induction h with
 |mk a cap l s h1 _ ih=>
  refine .mk a cap l s (fun j x hx=>?_) ih;obtain⟨b,off,e,hb,h8⟩:=h1 j x hx;exact⟨b,off,e,hm b hb,h8.keep (hk b hb (by have:=bB _ _ h8.1;simpa using this))⟩
theorem bG.of{p q:Nat->Prop}{W:World}{sv:Value}{l:List Ex}(h:bG p W sv l)(hm:∀b,b<W.heap.size->p b->q b):bG q W sv l:=by
 induction h with
 |mk a cap l s h1 _ ih=>
  refine .mk a cap l s (fun j x hx=>?_) ih;obtain⟨b,off,e,hb,h8⟩:=h1 j x hx;exact⟨b,off,e,hm b (by have:=bB _ _ h8.1;simpa using this) hb,h8⟩
theorem tT.low{n m:Nat}{W:World}{sv:Value}{l:List Ex}(h:tT n W sv l)(hm:m<=n):tT m W sv l:=h.keep (fun _b hb=>jH hm hb) fun _ _ _=>rfl
theorem bG.bl{p:Nat->Prop}{W W':World}{sv:Value}{l:List Ex}(h:bG p W sv l)(hb:Bl W W'):bG p W' sv l:=h.keep (fun _ h=>h) fun b _ hl=>hb.block b hl
theorem bG.shape{p:Nat->Prop}{W:World}{sv:Value}{l:List Ex}(h:bG p W sv l):∃a cap,sv= .slice a l.length cap:=by
 cases h with
 |mk a cap l s h1 h2=>exact⟨a,cap,rfl⟩
theorem gM.keep{p q:Nat->Prop}{W W':World}(hm:∀b,p b->q b)(hk:∀b,p b->b<W.heap.size->W'.heap[b]?=W.heap[b]?){x:Ex}{v:Value}(h:gM p W x v):gM q W' x v:=by
 obtain⟨sv,e,h⟩:=h;exact⟨sv,e,h.keep hm hk⟩
theorem pU.low{n m:Nat}{W:World}{x:Ex}{v:Value}(h:pU n W x v)(hm:m<=n):pU m W x v:=h.keep (fun _b hb=>jH hm hb) fun _ _ _=>rfl
theorem gM.bl{p:Nat->Prop}{W W':World}{x:Ex}{v:Value}(h:gM p W x v)(hb:Bl W W'):gM p W' x v:=h.keep (fun _ h=>h) fun b _ hl=>hb.block b hl
theorem bG.nil(p:Nat->Prop)(W:World)(a:Option Addr)(cap:Nat):bG p W (.slice a 0 cap) []:= .mk a cap [] (fun _=> .slice none 0 0) (fun j x h=>by simp at h) (fun j x h=>by simp at h)
theorem bM{P:Program}{ops:Array Oper}{Q:Exit->Act->World->Prop}{id:Nat}{a:Act}{w:World}(S:World->Prop)(s:Sc)(hm:P.follows .mixedOrders=true)(hs:jZ ops=true)(hB:scB ops ops.size s (kD ops.size false)=true)
  (hQ:∀(c:_) (a:Act) (d:Option Tmp) (v:Value) (w:World),Q (.panic c) (a.put d v) w->Q (.panic c) a w) (hS:S w.drew) (h:∀wd,Hid (Bl w wd)->S wd->a2w P ops Q S s a wd):(Code.region id ops true).wp P Q a w:=
 qP S s hm hs hB hQ hS (h _ ((Bl.refl w).drew) hS)
def Says(r:Res)(k:Nat)(x:Ex)(c:Int):Prop:=(c=0/\r= .good k x)\/((c=260\/c=261)/\r= .bad c)
def a2s(g cap:Nat)(ts:List Tok)(W:World)(r:Res)(e:Ending)(w':World):Prop:=
 ∃k x v c,k<ts.length/\pU W.heap.size w' x v/\e= .returned (.tuple #[RS g ts.length cap k,v,.int .i64 c])/\Bl W w'/\Says r k x c
theorem a2s.from{g cap:Nat}{ts:List Tok}{W0 W:World}{r:Res}{e:Ending}{w':World}(hb:Bl W0 W)(h:a2s g cap ts W r e w'):a2s g cap ts W0 r e w':=by
 obtain⟨k,x,v,c,h1,h2,h3,h4,h5⟩:=h;exact⟨k,x,v,c,h1,h2.low hb.size,h3,hb.call h4,h5⟩
theorem Says.bind{r:Res}{k:Nat}{x:Ex}{c:Int}(h:Says r k x c)(g:Ex->Ex):Says (r.bind fun k y=> .good k (g y)) k (g x) c:=by
 rcases h with⟨rfl,rfl⟩|⟨hc,rfl⟩
 ·exact .inl ⟨rfl,rfl⟩
 ·exact .inr ⟨hc,rfl⟩
end
section
mutual
def fC:Ex->Nat
 | .mk _ _ _ _ _ args=>1+fF args
def fF:List Ex->Nat
 |[]=>0
 |x::r=>fC x+fF r
end
theorem oM(x:Ex):1<=fC x:=by cases x;simp only[fC];omega
theorem a2d:∀{l:List Ex} {y:Ex},y∈l->fC y<=fF l
 |x::r,y,h=>by
  simp only[fF];rcases dD.1 h with rfl|h
  ·omega
  ·have:=a2d h;omega
theorem a2e:∀l:List Ex,l.length<=fF l
 |[]=>by simp[fF]
 |x::r=>by
  have:=a2e r;have:=oM x;simp only[fF,aX];omega
theorem a2f(x:Ex):fC x=1+fF x.args:=by cases x;simp only[fC,Ex.args]
theorem sH{x y:Ex}(h:y∈x.args):fC y<fC x:=by
 have:=a2d h;rw[a2f x];omega
theorem sG(x:Ex):x.args.length<fC x:=by
 have:=a2e x.args;rw[a2f x];omega
theorem gU.shape{W:World}{sv:Value}{l:List Ex}(h:gU W sv l):∃a cap,sv= .slice a l.length cap/\∀j,(h:j<l.length)->∃b off s,a=some ⟨b,off,none⟩/\At8 W b (off+j * 8) l[j] s/\gU W s l[j].args:=by
 cases h with
 |mk a cap l s h1 h2=>
  refine⟨a,cap,rfl,fun j hj=>?_⟩;have hx:l[j]?=some l[j]:=aP hj;obtain⟨b,off,e,h8⟩:=h1 j _ hx;exact⟨b,off,s j,e,h8,h2 j _ hx⟩
def Job.made:Job->Nat
 | .rd _ _ _=>0
 | .lp _ _ _ x=>fC x
 | .args _ _ _ acc=>1+fF acc
def Made(ts:List Tok)(j:Job):Res->Prop
 | .good k x=>k<ts.length/\fC x+j.at<=j.made+k
 |_=>True
theorem Made.bind{ts:List Tok}{i j:Job}{r:Res}{g:Nat->Ex->Res}(h:Made ts i r)(hg:∀k x,k<ts.length->fC x+i.at<=i.made+k->Made ts j (g k x)):Made ts j (r.bind g):=by
 cases r with
 |o=>exact trivial
 |bad e=>exact trivial
 |good k x=>exact hg k x h.1 h.2
end
section
attribute [local go_sem] nC
theorem KeepsOthers.of_bl{W W':World}(h:Bl W W'):KeepsOthers W W':=
 ⟨h.size,fun k o hk _=>by rw[h.block k (aC.1 hk).1];exact hk⟩
def upto{α:Type}(f:Nat->α)(k:Nat):List α:=(iU k).map f
theorem wH{α:Type}(f:Nat->α)(k:Nat):upto f (k+1)=upto f k++[f k]:=by simp[upto,List.range_succ]
theorem zN{α:Type}(f:Nat->α)(k:Nat):(upto f k).length=k:=by simp[upto]
theorem c7l(zs:List Int):upto (fun j=>zs[j]?.getD 0) zs.length=zs:=by
 apply kX
 ·simp[upto]
 ·intro i h1 h2;simp[upto,h2]
set_option maxRecDepth 100000 in
theorem values1_in(F:Fence)(n:Nat)(h7:F.fn 195)(hro:F.round=none)(hn:1<=n)(l Bs n₀ b off len cap:Nat)(zs:List Int)(hreach:len * 8<=140737488351232)(hb:b<n₀)(J Jx:List Int->World->Prop)
  (hY:∀pre x W,J pre W->pre.length<len->YieldAt F (n-1) prog l #[.int .i64 x] W fun e W'=>
   (e= .returned (.bool true)/\J (pre++[x]) W'/\Below n₀ W W')\/(e= .returned (.bool false)/\Jx (pre++[x]) W'))
  (W:World) (hBs:W.cell? ⟨Bs,0,none⟩=some (.slice (some ⟨b,off,none⟩) len cap)) (hc:∀j,j<len->W.cell? ⟨b,off+j,none⟩=some (.int .i64 (zs[j]?.getD 0))) (h0:J [] W):
  CallsIn F n prog 195 #[.func (.yield l) #[] #[],.pointer (some ⟨Bs,0,none⟩)] W fun e W'=>(∃v,e= .returned v)/\
   ((∃ys,ys=upto (fun j=>zs[j]?.getD 0) len/\J ys W')\/(∃pre,(∃k,k<=len/\pre=upto (fun j=>zs[j]?.getD 0) k)/\Jx pre W')):=by
 refine callsIn_of_wp func195 rfl h7 ?_ hro;simp only[ntmps195,gG,aX,bL,Nat.reduceAdd,Nat.reduceSub,eX,eU,gH,fD,cB,bE]
 gi_wp2
 gi_loopw [7] (fun i wr=>∃k:Nat,k<=len/\i= .int .i64 k/\J (upto (fun j=>zs[j]?.getD 0) k) wr/\Below n₀ W wr)
  (fun i _=>len-(intOf i).toNat)
 case atStart=>exact⟨0,dL _,rfl,h0,bS _ _⟩
 case round=>
  obtain⟨k,hk,rfl,hJs,hnx⟩:=hrel;have hcx:k<len->wr.cell? ⟨b,off+k,none⟩=some (.int .i64 (zs[k]?.getD 0)):=fun h=>(hnx.cell (p:=⟨b,off+k,none⟩) hb).trans (hc k h);by_cases hlt:k<len
  ·obtain⟨fn,tmps,assign,body,hy,hR⟩:=hY _ (zs[k]?.getD 0) wr hJs (by rw[zN];exact hlt);have hcx':=hcx hlt
   gi_wp2
   refine hR.mono ?_;rintro e W3 (⟨rfl,hJ3,hk3⟩|⟨rfl,hJx3⟩)
   ·-- THE ROUND GOES ON
    gi_wp2
    go_roundw
    case rel=>exact⟨k+1,by omega,by simp,by rw[wH];exact hJ3,hnx.trans hk3⟩
    case measure=>simp[intOf];omega
   ·gi_wp2
    refine bodyPost_ret (results_none rfl _ _ _) rfl ?_;exact⟨⟨_,rfl⟩,.inr ⟨_,⟨k+1,by omega,(wH _ _).symm⟩,hJx3⟩⟩
  ·obtain rfl:k=len:=by omega
   gi_wp2
   go_end0;exact⟨⟨_,rfl⟩,.inl ⟨_,rfl,hJs⟩⟩
theorem c5q(zs:List Int){k:Nat}(hk:k<=zs.length):upto (fun j=>zs[j]?.getD 0) k=zs.take k:=by
 apply kX
 ·simp[upto,hk]
 ·intro i h1 h2;have:i<zs.length:=(by simp[upto] at h1;omega);simp[upto,this]
def Ints(n₀:Nat)(W:World)(sv:Value)(zs:List Int):Prop:=
 (sv= .slice none 0 0/\zs=[])\/∃b off cap,sv= .slice (some ⟨b,off,none⟩) zs.length cap/\b<n₀/\∀j,j<zs.length->W.cell? ⟨b,off+j,none⟩=some (.int .i64 (zs[j]?.getD 0))
theorem Ints.below{n₀:Nat}{A B:World}(h:Below n₀ A B){sv:Value}{zs:List Int}:Ints n₀ A sv zs->Ints n₀ B sv zs
 | .inl e=> .inl e
 | .inr ⟨b,off,cap,e,hb,hc⟩=> .inr ⟨b,off,cap,e,hb,fun j hj=>(h.cell (p:=⟨b,off+j,none⟩) hb).trans (hc j hj)⟩
set_option maxRecDepth 100000 in
theorem values1_nil_in(F:Fence)(n:Nat)(h7:F.fn 195)(hro:F.round=none)(l Bs:Nat)(J:List Int->World->Prop)(W:World)(hBs:W.cell? ⟨Bs,0,none⟩=some (.slice none 0 0))(h0:J [] W):
  CallsIn F n prog 195 #[.func (.yield l) #[] #[],.pointer (some ⟨Bs,0,none⟩)] W fun e W'=>(∃v,e= .returned v)/\J [] W':=by
 refine callsIn_of_wp func195 rfl h7 ?_ hro;simp only[ntmps195,gG,aX,bL,Nat.reduceAdd,Nat.reduceSub,eX,eU,gH,fD,cB,bE]
 gi_wp2
 gi_loopw [7] (fun i wr=>i= .int .i64 0/\J [] wr) (fun _ _=>0)
 case atStart=>exact⟨rfl,h0⟩
 case round=>
  obtain⟨rfl,hJs⟩:=hrel
  gi_wp2
  go_end0;exact⟨⟨_,rfl⟩,hJs⟩
theorem values_in(F:Fence)(n:Nat)(h5:F.fn 186)(hro:F.round=none)(a:Option Addr)(len cap:Nat)(w:World):
  CallsIn F n prog 186 #[.slice a len cap] w fun e w'=>e= .returned (.func (.func 195) #[] #[.pointer (some ⟨w.heap.size,0,none⟩)])/\w'=w.alloc (.cells #[.slice a len cap] 214):=by
 refine callsIn_of_wp func186 rfl h5 ?_ hro;simp only[ntmps186,gG,aX,bL,Nat.reduceAdd,Nat.reduceSub,eX,eU,gH,fD,cB,bE]
 gi_wp2
 go_ret;exact⟨rfl,rfl⟩
theorem values_stops(F:Fence)(n:Nat)(h7:F.fn 195)(hro:F.round=none)(hn:1<=n)(Bs n₀:Nat)(sv:Value)(zs:List Int)(hreach:zs.length * 8<=140737488351232)(w:World)(hBs:Bs<w.heap.size)(hn₀:n₀<=w.heap.size)
  (hc:w.cell? ⟨Bs,0,none⟩=some sv) (hI:Ints n₀ w sv zs):
  SeqStopsK F n prog 195 #[.pointer (some ⟨Bs,0,none⟩)] (fun x:Int=> #[Value.int .i64 x]) (Below n₀) (fun ys=>ys=zs) (fun pre=>pre<+:zs) zs.length w:=fun l J Jx W hW _ _ hY h0=>by
 have hc':=(hW.cell (p:=⟨Bs,0,none⟩) hBs).trans hc;rcases hI.below (hW.mono hn₀) with⟨rfl,rfl⟩|⟨b,off,cap,rfl,hb,hcs⟩
 ·exact(values1_nil_in F n h7 hro l Bs J W hc' h0).mono fun e W' ⟨he,hj⟩=>⟨he,.inl ⟨_,rfl,hj⟩⟩
 ·refine(values1_in F n h7 hro hn l Bs n₀ b off zs.length cap zs hreach hb J Jx hY W hc' hcs h0).mono ?_;rintro e W' ⟨he,⟨ys,rfl,hj⟩|⟨pre,⟨k,hk,rfl⟩,hj⟩⟩
  ·exact⟨he,.inl ⟨_,c7l zs,hj⟩⟩
  ·exact⟨he,.inr ⟨_,by rw[c5q zs hk];exact List.take_prefix _ _,hj⟩⟩
end
section
attribute [local go_sem] nC
def KpX(n₀ x:Nat)(A B:World):Prop:=∀k,k<n₀->k≠x->B.heap[k]?=A.heap[k]?
theorem KpX.refl(n₀ x:Nat)(A:World):KpX n₀ x A A:=fun _ _ _=>rfl
theorem KpX.trans{n₀ x:Nat}{A B C:World}(h:KpX n₀ x A B)(k:KpX n₀ x B C):KpX n₀ x A C:=fun i hi hx=>(k i hi hx).trans (h i hi hx)
theorem KpX.cell{n₀ x:Nat}{A B:World}(h:KpX n₀ x A B){b o:Nat}(hb:b<n₀)(hx:b≠x):B.cell? ⟨b,o,none⟩=A.cell? ⟨b,o,none⟩:=jV (h b hb hx)
theorem KpX.grown{n₀ x:Nat}{A B:World}(h:A.grownBy B (some x))(hn:n₀<=A.heap.size):KpX n₀ x A B:=fun k hk hx=>h.5 k aE (fun e=>hx (by injection e))
def a8x(n₀ x:Nat)(W:World)(sv:Value)(xs:List (List UInt8)):Prop:=
 ∃a cap,sv= .slice a xs.length cap/\∀j,j<xs.length->∃b off,a=some ⟨b,off,none⟩/\b<n₀/\b≠x/\W.cell? ⟨b,off+j,none⟩=some (S (xs[j]?.getD []))
theorem a8x.keep{n₀ x:Nat}{A B:World}(h:KpX n₀ x A B){sv:Value}{xs:List (List UInt8)}(k:a8x n₀ x A sv xs):a8x n₀ x B sv xs:=by
 obtain⟨a,cap,e,hc⟩:=k;refine⟨a,cap,e,fun j hj=>?_⟩;obtain⟨b,off,e2,hb,hx,c⟩:=hc j hj;exact⟨b,off,e2,hb,hx,(h.cell hb hx).trans c⟩
end
section
attribute [local go_sem] nC
theorem iV.grownBy{W W':World}{bs g cap k:Nat}{ts:List Tok}(h:iV W bs g cap ts k){row:Option Nat}(hg:W.grownBy W' row)(h1:some bs≠row)(h2:some g≠row):iV W' bs g cap ts k:=
 h.keep (hg.block bs (aC.1 h.own).1 h1) (hg.block g (bB _ _ (h.row k h.lt).1) h2)
end
section
theorem zI{l:List UInt8}{ts:List Tok}(h:jQ l=some ts):ts.length<=l.length:=(a1m (parse:=fP) l.length l.length l (aH _) ts h).2
def c4e(W:World)(l:List UInt8)(ts:List Tok)(e:Ending)(w':World):Prop:=
 ∃bs g cap,e= .returned (.tuple #[.pointer (some ⟨bs,0,none⟩),.int .i64 0])/\Bl W w'/\W.heap.size<=bs/\W.heap.size<=g/\iV w' bs g cap (ts++[eT l.length]) 0
theorem a4h(l:List UInt8)(hl:l.length<=4000)(ts:List Tok)(h:jQ l=some ts)(W:World)(hG:nD W):cL 106 #[S l] W (c4e W l ts):=by
 have hf:=zI h;have H:=aB h;clear h;go_enter func106,ntmps106;go_wp2_with fail
 (with_reducible refine(c0z l hl ts H.o W hG).mono ?_)
 rintro e w1 ⟨g,cap,rfl,hb,hg,ho⟩;have HR:Hid (Row w1 g (ts++[eT l.length])):=c2b ho;have hgl:g<w1.heap.size:=(ho.lt g rfl).2;clear ho;go_wp2;go_ret2;refine⟨_,g,cap,rfl,hb.alloc _,hb.size,hg,⟨?_,HR.o.bl ((Bl.refl w1).alloc _),by simp,by simp;omega,by omega⟩⟩;rw[aN];simp
theorem a7d(l:List UInt8)(hl:l.length<=9223372036854775807)(h:bY l≠0)(W:World)(hG:nD W):cL 106 #[S l] W fun e w'=>e= .returned (.tuple #[.pointer none,.int .i64 (bY l)])/\Bl W w':=by
 have hne:(bY l != 0)=true:=av;go_enter func106,ntmps106;go_wp2_with fail
 (with_reducible refine(a3d l hl W hG).mono ?_)
 rintro e w1 ⟨v,rfl,hb,hv,-⟩;obtain rfl:=hv h;clear hv;generalize hx:bY l=x at *;have HX:=aB hx;clear hx;go_wp2;go_ret2;exact⟨by rw[HX.o];rfl,hb⟩
end
section
def vM(o:Int):Int:=if 1<=o/\o<=5\/o=15\/o=20 then 2 else if o=13\/o=14\/o=16 then 1 else 0
def fU(o:Int):Int:=if 1<=o/\o<=5\/o=15\/o=19\/o=20 then 2 else if 7<=o/\o<=14\/16<=o/\o<=18 then 1 else 0
abbrev OI(o:Int):Value:= .agg #[S (bI o),.int .i64 (fJ o:Int),.int .i64 (vM o),.int .i64 (fU o)]
theorem twenty{o:Int}(h:1<=o/\o<=20):o=1\/o=2\/o=3\/o=4\/o=5\/o=6\/o=7\/o=8\/o=9\/o=10\/o=11\/o=12\/o=13\/o=14\/o=15\/o=16\/o=17\/o=18\/o=19\/o=20:=by omega
theorem c1s{o:Int}(h:¬(1<=o/\o<=20)):bI o=[]:=by
 unfold bI;split<;>first |rfl|(exfalso;apply h;decide)
theorem b8q(o:Int)(h:1<=o/\o<=20)(w:World):cL 59 #[.int .i64 o] w fun e w'=>e= .returned (OI o)/\Bl w w':=by
 rcases twenty h with rfl|rfl|rfl|rfl|rfl|rfl|rfl|rfl|rfl|rfl|rfl|rfl|rfl|rfl|rfl|rfl|rfl|rfl|rfl|rfl
 all_goals
  clear h;go_enter func59,ntmps59;go_wp2;refine bodyPost_ret ?_ rfl ⟨rfl,(((Bl.refl w).alloc _).alloc _).alloc _⟩;simp[results,results59,go_sem,bI,fJ,vM,fU]
theorem a4l(o:Int)(w:World):cL 59 #[.int .i64 o] w fun e w'=>e= .returned (OI o)/\Bl w w':=by
 by_cases h:1<=o/\o<=20
 ·exact b8q o h w
 ·have e:OI o= .agg #[S [],.int .i64 0,.int .i64 0,.int .i64 0]:=by
   show Value.agg #[S (bI o),.int .i64 (fJ o:Int),.int .i64 (vM o),.int .i64 (fU o)]=_;rw[show bI o=[] from c1s h,show fJ o=0 by unfold fJ;rw[if_neg aE,if_neg aE],show vM o=0 by unfold vM;rw[if_neg aE,if_neg aE],show fU o=0 by unfold fU;rw[if_neg aE,if_neg aE]];rfl
  have HE:=aB e;have h1:o<1\/(¬o<1/\20<o):=aE;clear e h;rcases h1 with h1|⟨h1,h2⟩
  all_goals
   go_enter func59,ntmps59;go_wp2;exact bodyPost_ret (v:= .agg #[S [],.int .i64 0,.int .i64 0,.int .i64 0]) (by simp[results,results59,go_sem]) rfl ⟨by rw[HE.o],(Bl.refl w).alloc _⟩
def b3j(W:World)(sv:Value)(l:List Int):Prop:=∃a cap,sv= .slice a l.length cap/\∀j,(h:j<l.length)->∃b off,a=some ⟨b,off,none⟩/\W.cell? ⟨b,off+j,none⟩=some (.int .i64 l[j])
theorem b3j.bl{W W':World}(hb:Bl W W'){sv:Value}{l:List Int}(h:b3j W sv l):b3j W' sv l:=by
 obtain⟨a,cap,e,hc⟩:=h;refine⟨a,cap,e,fun j hj=>?_⟩;obtain⟨b,off,e2,c⟩:=hc j hj;exact⟨b,off,e2,hb.cell c⟩
end
section
def b3s:Array Value:= #[S [],.int .i64 0,.int .i64 0,.int .i64 0,.string ⟨#[43]⟩,.int .i64 2,.int .i64 2,.int .i64 2,.string ⟨#[45]⟩,.int .i64 2,.int .i64 2,.int .i64 2,.string ⟨#[42]⟩,.int .i64 2,.int .i64 2,.int .i64 2,.string ⟨#[47]⟩,.int .i64 2,.int .i64 2,.int .i64 2,.string ⟨#[37]⟩,.int .i64 2,.int .i64 2,.int .i64 2,.string ⟨#[124,124]⟩,.int .i64 2,.int .i64 0,.int .i64 0,.string ⟨#[61]⟩,.int .i64 2,.int .i64 0,.int .i64 1,.string ⟨#[60,62]⟩,.int .i64 2,.int .i64 0,.int .i64 1,.string ⟨#[60]⟩,.int .i64 2,.int .i64 0,.int .i64 1,.string ⟨#[60,61]⟩,.int .i64 2,.int .i64 0,.int .i64 1,.string ⟨#[62]⟩,.int .i64 2,.int .i64 0,.int .i64 1,.string ⟨#[62,61]⟩,.int .i64 2,.int .i64 0,.int .i64 1,.string ⟨#[97,110,100]⟩,.int .i64 2,.int .i64 1,.int .i64 1,.string ⟨#[111,114]⟩,.int .i64 2,.int .i64 1,.int .i64 1,.string ⟨#[45]⟩,.int .i64 1,.int .i64 2,.int .i64 2,.string ⟨#[110,111,116]⟩,.int .i64 1,.int .i64 1,.int .i64 1,.string ⟨#[105,115,32,110,117,108,108]⟩,.int .i64 1,.int .i64 0,.int .i64 1,.string ⟨#[105,115,32,110,111,116,32,110,117,108,108]⟩,.int .i64 1,.int .i64 0,.int .i64 1,.string ⟨#[108,101,110,103,116,104]⟩,.int .i64 1,.int .i64 0,.int .i64 2,.string ⟨#[97,98,115]⟩,.int .i64 1,.int .i64 2,.int .i64 2]
def c6f:Array Value:= #[S [],.int .i64 0,.int .i64 0,.int .i64 0,S [],.int .i64 0,.int .i64 0,.int .i64 0,S [],.int .i64 0,.int .i64 0,.int .i64 0,S [],.int .i64 0,.int .i64 0,.int .i64 0,S [],.int .i64 0,.int .i64 0,.int .i64 0,S [],.int .i64 0,.int .i64 0,.int .i64 0,S [],.int .i64 0,.int .i64 0,.int .i64 0,S [],.int .i64 0,.int .i64 0,.int .i64 0,S [],.int .i64 0,.int .i64 0,.int .i64 0,S [],.int .i64 0,.int .i64 0,.int .i64 0,S [],.int .i64 0,.int .i64 0,.int .i64 0,S [],.int .i64 0,.int .i64 0,.int .i64 0,S [],.int .i64 0,.int .i64 0,.int .i64 0,S [],.int .i64 0,.int .i64 0,.int .i64 0,S [],.int .i64 0,.int .i64 0,.int .i64 0,S [],.int .i64 0,.int .i64 0,.int .i64 0,S [],.int .i64 0,.int .i64 0,.int .i64 0,S [],.int .i64 0,.int .i64 0,.int .i64 0,S [],.int .i64 0,.int .i64 0,.int .i64 0,S [],.int .i64 0,.int .i64 0,.int .i64 0,S [],.int .i64 0,.int .i64 0,.int .i64 0]
theorem a7y:(prog.info? 152).map (·.size)=some 84:=by kernel_rfl
theorem b4u(w:World):cL 109 #[] w fun e w'=>e= .returned (.agg b3s)/\w'=w.alloc (.cells b3s 152):=by
 have hst:=fun(w:World)=>run_storeAt_new (P:=prog) w 152 c6f b3s a7y rfl ae;have hzv:∀w,(zeroValue 152).run prog w= .ok (.agg c6f) w:=fun _=>ae;go_enter func109,ntmps109;go_wp2_with (first
  |(refine wpList_store_row rfl 152 (.tmp 0) (.tmp 52) rfl w.heap.size b3s rfl ae 152 c6f (aN w _) a7y rfl ae ?_))
 have hW:((w.alloc (.cells c6f 152)).setRow w.heap.size b3s)=w.alloc (.cells b3s 152):=lD w c6f b3s 152;refine bodyPost_ret (v:= .agg b3s) (results_cell_row (p:=0) (ty:=152) rfl _ _ w.heap.size 152 b3s (0,0) (.array 21 110) rfl ?_ ae rfl a7y) rfl ⟨rfl,hW⟩;exact(congrArg (fun W:World=>W.heap[w.heap.size]?) hW).trans (aN w _)
theorem b4z(o:Int)(h:¬(1<=o/\o<=20))(w:World):cL 81 #[.int .i64 o] w fun e w'=>e= .returned (.tuple #[.agg #[S [],.int .i64 0,.int .i64 0,.int .i64 0],.bool false])/\Bl w w':=by
 have h1:o<=0\/(¬o<=0/\20<o):=aE;clear h;rcases h1 with h1|⟨h1,h2⟩
 all_goals
  go_enter func81,ntmps81;go_wp2;exact bodyPost_ret (v:= .tuple #[.agg #[S [],.int .i64 0,.int .i64 0,.int .i64 0],.bool false]) (by simp[results,results81,go_sem]) rfl ⟨rfl,(Bl.refl w).alloc _⟩
end
section
theorem b9b:∃cs:Array Value,Hid (cs=b3s)/\∀w,cL 109 #[] w fun e w'=>e= .returned (.agg cs)/\w'=w.alloc (.cells cs 152):=⟨b3s,rfl,b4u⟩
theorem b6c(o:Int)(h:1<=o/\o<=20)(w:World):Sem.run prog (Instr.index 152 (.agg b3s) (.int .i64 o)) w= .ok (.agg #[S (bI o),.int .i64 (fJ o:Int),.int .i64 (vM o),.int .i64 (fU o)]) w:=by
 rcases twenty h with rfl|rfl|rfl|rfl|rfl|rfl|rfl|rfl|rfl|rfl|rfl|rfl|rfl|rfl|rfl|rfl|rfl|rfl|rfl|rfl
 all_goals rfl
theorem uR(o:Int)(h:1<=o/\o<=20)(w:World):cL 81 #[.int .i64 o] w fun e w'=>e= .returned (.tuple #[.agg #[S (bI o),.int .i64 (fJ o:Int),.int .i64 (vM o),.int .i64 (fU o)],.bool true])/\Bl w w':=by
 obtain⟨cs,HC,hrows⟩:=b9b;have HR:=aB hrows;have hidx:∀w,Sem.run prog (Instr.index 152 (.agg cs) (.int .i64 o)) w= .ok (.agg #[S (bI o),.int .i64 (fJ o:Int),.int .i64 (vM o),.int .i64 (fU o)]) w:=by
  rw[HC.o];exact b6c o h
 clear hrows HC;have h1:¬o<=0:=aE;have h2:¬20<o:=aE;clear h;go_enter func81,ntmps81;go_wp2_with fail
 (with_reducible refine(HR.o _).mono ?_)
 rintro e w1 ⟨rfl,rfl⟩;go_wp2;refine bodyPost_ret (v:= .tuple #[.agg #[S (bI o),.int .i64 (fJ o:Int),.int .i64 (vM o),.int .i64 (fU o)],.bool true]) ?_ rfl ⟨rfl,((Bl.refl w).alloc _).alloc _⟩;simp[results,results81,go_sem]
end
section
end
section
end
section
abbrev Pan(c:Int):Ending:= .panicked [{v:= .iface 37 (.int .i64 c),recovered:=false}]
def gT(bs g cap:Nat)(ts:List Tok)(W:World)(r:Res)(e:Ending)(w':World):Prop:=
 W.grownBy w' (some bs)/\∃k',iV w' bs g cap ts k'/\((∃x v,r= .good k' x/\pU W.heap.size w' x v/\e= .returned v)\/(∃c,(c=260\/c=261)/\r= .bad c/\e=Pan c))
theorem b2o{A B:World}{r:Option Nat}(h:A.grownBy B r):A.heap.size<=B.heap.size:=h.4
theorem gT.from{bs g cap:Nat}{ts:List Tok}{W0 W:World}{r:Res}{e:Ending}{w':World}(hb:W0.grownBy W (some bs))(h:gT bs g cap ts W r e w'):gT bs g cap ts W0 r e w':=by
 obtain⟨h1,k',h2,h3⟩:=h;refine⟨dA hb h1,k',h2,?_⟩;rcases h3 with⟨x,v,e1,e2,e3⟩|h3
 ·exact .inl ⟨x,v,e1,e2.low (b2o hb),e3⟩
 ·exact .inr h3
theorem bG.grown{p:Nat->Prop}{bs:Nat}{A B:World}{sv:Value}{l:List Ex}(h:bG p A sv l)(hg:A.grownBy B (some bs))(hb:¬p bs):bG p B sv l:=
 h.keep (fun _ h=>h) fun b hp hl=>hg.block b hl (fun e=>by injection e with e;subst e;exact hb hp)
theorem gM.grown{p:Nat->Prop}{bs:Nat}{A B:World}{x:Ex}{v:Value}(h:gM p A x v)(hg:A.grownBy B (some bs))(hb:¬p bs):gM p B x v:=by
 obtain⟨sv,e,h⟩:=h;exact⟨sv,e,h.grown hg hb⟩
def a0w(x:Nat)(W:World)(sv:Value)(l:List Int):Prop:=∃b off cap,sv= .slice (some ⟨b,off,none⟩) l.length cap/\b≠x/\b<W.heap.size/\∀j (h:j<l.length),W.cell? ⟨b,off+j,none⟩=some (.int .i64 l[j])
theorem a0w.grown{x:Nat}{A B:World}{sv:Value}{l:List Int}(h:a0w x A sv l)(hg:A.grownBy B (some x)):a0w x B sv l:=by
 obtain⟨b,off,cap,e,hb,hl,hc⟩:=h;refine⟨b,off,cap,e,hb,gK hl hg.4,fun j hj=>?_⟩;rw[jV (w:=A) (hg.block b hl (fun e=>by injection e with e;exact hb e))];exact hc j hj
theorem a0w.bl{x:Nat}{A B:World}{sv:Value}{l:List Int}(h:a0w x A sv l)(hg:Bl A B):a0w x B sv l:=h.grown (gI hg _)
end
section
theorem a3p{W:World}{bs g cap k k':Nat}{ts:List Tok}{n:List UInt8}(h:iV W bs g cap ts k)(hn:mM ts k=some (n,k')):cL 107 #[.pointer (some ⟨bs,0,none⟩)] W fun e w'=>e= .returned (.tuple #[S n,.bool true])/\W.grownBy w' (some bs)/\iV w' bs g cap ts k':=by
 unfold mM at hn;cases hx:ts[k]? with
 |none=>rw[hx] at hn;cases hn
 |some x=>
  rw[hx] at hn;simp only at hn;split at hn
  ·rename_i hi;injection hn with hn;injection hn with h1 h2;subst h1;subst h2;refine(a5b h hx).mono ?_;rintro e w' ⟨hg,(⟨h1,rfl,hs⟩|⟨h1,rfl,hs⟩)⟩
   ·exact⟨rfl,hg,hs⟩
   ·rw[hi] at h1;cases h1
  ·cases hn
theorem a8a{W:World}{bs g cap k:Nat}{ts:List Tok}(h:iV W bs g cap ts k)(hn:mM ts k=none):cL 107 #[.pointer (some ⟨bs,0,none⟩)] W fun e w'=>e= .returned (.tuple #[S [],.bool false])/\W.grownBy w' (some bs)/\iV w' bs g cap ts k:=by
 unfold mM at hn;have hx:ts[k]?=some (ts[k]'h.lt):=aP h.lt;rw[hx] at hn;simp only at hn;split at hn
 ·cases hn
 ·rename_i hi;refine(a5b h hx).mono ?_;rintro e w' ⟨hg,(⟨h1,rfl,hs⟩|⟨h1,rfl,hs⟩)⟩
  ·rw[h1] at hi;exact absurd rfl hi
  ·exact⟨rfl,hg,hs⟩
end
section
end
section
theorem cK{W:World}{b:Nat}{x:Value}{t:TypeId}(h:W.heap[b]?=some (.cells #[x] t (0,0))):W.cell? ⟨b,0,none⟩=some x:=by rw[aG h];rfl
end
section
theorem bG.own{m:Nat}{v v':Value}{A B:World}{sv:Value}{l:List Ex}(h:bG (fun b=>m<=b/\some b≠v.ownBlock) A sv l)(hg:A.grownBy B v.ownBlock)(hat:v'.ownBlock=v.ownBlock\/v'.ownBlock=some A.heap.size):bG (fun b=>m<=b/\some b≠v'.ownBlock) B sv l:=
 (h.of (q:=fun b=>(m<=b/\some b≠v.ownBlock)/\some b≠v'.ownBlock) fun b hl hb=>⟨hb,by
  rcases hat with e|e
  ·rw[e];exact hb.2
  ·rw[e];intro h;injection h with h;omega⟩).keep (fun b hb=>⟨hb.1.1,hb.2⟩) fun b hb hl=>hg.block b hl hb.1.2
theorem a4n(l:List UInt8)(hl:l.length<=4000)(ts:List Tok)(h:jQ l=some ts)(W:World):cL 86 #[S l] W fun e w'=>
  ∃g cap,e= .returned (.tuple #[.slice (some ⟨g,0,none⟩) (ts++[eT l.length]).length cap,.int .i64 0])/\Bl W w'/\Row w' g (ts++[eT l.length]):=by
 have h0:bY l=0:=(by unfold bY;rw[if_neg aE,h,if_neg aa]);refine(a9v l hl W).mono ?_;rintro e w' ⟨v,he,hb,ho⟩;have ho':=ho ts h0 h;obtain⟨g,cap,rfl⟩:=nG ho';exact⟨g,cap,by rw[he,h0];simp,hb,c2b ho'⟩
theorem a5t{s:List UInt8}(h:bY s≠0):mO s=false:=by
 unfold bY at h;unfold mO;by_cases h1:4000<s.length
 ·rw[if_pos h1]
 ·rw[if_neg h1] at h⊢;cases ht:jQ s with
  |none=>rfl
  |some ts=>rw[ht] at h;simp at h
def c7v(s:List UInt8):List Tok->Bool
 |[x]=>fH x&&(x.t==s)
 |_=>false
theorem b0f{s:List UInt8}{ts:List Tok}(hs:s.length<=4000)(h:jQ s=some ts):mO s=c7v s ts:=by
 unfold mO;rw[if_neg aE,h];rcases ts with _|⟨x,_|⟨y,r⟩⟩<;>rfl
theorem a7g(s:List UInt8)(hs:s.length<=9223372036854775807)(h:bY s≠0)(W:World):cL 58 #[S s] W fun e w'=>e= .returned (.bool (mO s))/\Bl W w':=by
 have HN:=aB (a5t h);have hb0:(bY s==0)=false:=av;go_enter func58,ntmps58;go_wp2_with fail;refine(a9w s hs _).mono ?_;rintro e w1 ⟨v,rfl,hb,-⟩;go_wp2;go_ret;exact⟨by rw[HN.o];rfl,hb⟩
theorem a4m(s:List UInt8)(hs:s.length<=4000)(ts:List Tok)(h:jQ s=some ts)(W:World):cL 58 #[S s] W fun e w'=>e= .returned (.bool (mO s))/\Bl W w':=by
 have hAll:=fun W'=>a4n s hs ts h W';have hN:=b0f hs h;have HN:=aB hN;have HALL:=aB hAll;have hfew:=zI h;clear hN hAll h;rcases ts with _|⟨x,_|⟨y,r⟩⟩
 case nil=>
  go_enter func58,ntmps58;go_wp2_with fail;refine(HALL.o _).mono ?_;rintro e w1 ⟨g,cap,rfl,hb,-⟩;go_wp2;go_ret;exact⟨by rw[HN.o];rfl,hb⟩
 case cons.cons=>
  have hl:¬(((x::y::r)++[eT s.length]).length:Int)=2:=ab;have hlb:((((x::y::r)++[eT s.length]).length:Int)==2)=false:=(by simpa using hl);generalize hq:((x::y::r)++[eT s.length])=q at *;go_enter func58,ntmps58;go_wp2_with fail;refine(HALL.o _).mono ?_;rintro e w1 ⟨g,cap,rfl,hb,-⟩;go_wp2;go_ret;exact⟨by rw[HN.o];rfl,hb⟩
 case cons.nil=>
  obtain⟨xk,xp,xt,xa,xb,xc⟩:=x;go_enter func58,ntmps58;go_wp2_with fail;refine(HALL.o _).mono ?_;rintro e w1 ⟨g,cap,rfl,hb,hrow⟩;have h6:=hrow 0 aa;obtain⟨c0,-,c2,-,-,-⟩:=h6;simp only[bE,cB,jB,Nat.zero_mul,gD] at c0 c2;have HB:=aB hb;clear hb hrow;by_cases hk:xk=1
  case neg=>
   have hkb:(xk==1)=false:=(by simpa using hk);have HE:=aB (show mO s=false from by rw[HN.o];simp[c7v,fH,hk]);go_wp2;go_ret;exact⟨by rw[HE.o];rfl,HB.o⟩
  subst hk;by_cases ht:xt=s
  case neg=>
   have htb:(xt==s)=false:=an;have HE:=aB (show mO s=false from by rw[HN.o];simp[c7v,ht]);go_wp2;go_ret;exact⟨by rw[HE.o];rfl,HB.o⟩
  subst ht;cases hkw:kwB xt
  all_goals
   have HKW:=aB hkw;have HE:=aB (show mO xt= !(kwB xt) from by rw[HN.o];simp[c7v,fH]);clear hkw;go_wp2_with fail
   (with_reducible refine(uE xt _).mono ?_)
   rintro e w2 ⟨rfl,hb2⟩;rw[HKW.o];go_wp2;go_ret;exact⟨by rw[HE.o,HKW.o];rfl,HB.o.call hb2⟩
theorem b4a(s:List UInt8)(hs:s.length<=9223372036854775807)(W:World):cL 58 #[S s] W fun e w'=>e= .returned (.bool (mO s))/\Bl W w':=by
 by_cases h:bY s=0
 ·unfold bY at h;by_cases h1:4000<s.length
  ·rw[if_pos h1] at h;cases h
  ·rw[if_neg h1] at h;cases ht:jQ s with
   |none=>rw[ht] at h;simp at h
   |some ts=>exact a4m s aE ts ht W
 ·exact a7g s hs h W
end
end Go.Proofs.YtkimpcmkminffaaGreatDoor
