/- Texts beside the shared ones. -/
import Derived.Test.YtkimpcmkminffaaGreatDoorWX0
import Derived.Test.YtkimpcmkminffaaGreatDoorWM2
namespace Go.Proofs.YtkimpcmkminffaaGreatDoor
open Go.RowKit
open _root_.Go.Lib renaming cell_of_heap->aG,hid->aB
open _root_.List renaming drop_eq_getElem_cons->aZ,drop_length->dO
open _root_.Nat renaming zero_le->dL
set_option maxRecDepth 100000
set_option maxHeartbeats 8000000
section
theorem anyD_drop{α:Type}(p:α->Bool){l:List α}{j:Nat}(hj:j<l.length):(l.drop j).any p=(p l[j]||(l.drop (j+1)).any p):=by
 rw[aZ hj];rfl
theorem b3j.cell{W:World}{a:Option Addr}{cap:Nat}{l:List Int}(h:b3j W (.slice a l.length cap) l){j:Nat}(hj:j<l.length):∃b off,a=some ⟨b,off,none⟩/\W.cell? ⟨b,off+j,none⟩=some (.int .i64 l[j]):=by
 obtain⟨a',cap',e,hc⟩:=h;obtain⟨rfl,rfl⟩:a=a'/\cap=cap':=(by simpa using e);exact hc j hj
theorem ofO_op{o:Int}(ho:1<=o/\o<=20):ofO o=vM o:=by
 rcases twenty ho with rfl|rfl|rfl|rfl|rfl|rfl|rfl|rfl|rfl|rfl|rfl|rfl|rfl|rfl|rfl|rfl|rfl|rfl|rfl|rfl<;>rfl
theorem opName_ne{o:Int}(ho:1<=o/\o<=20):(bI o==[])=false:=by
 rcases twenty ho with rfl|rfl|rfl|rfl|rfl|rfl|rfl|rfl|rfl|rfl|rfl|rfl|rfl|rfl|rfl|rfl|rfl|rfl|rfl|rfl<;>rfl
theorem opMany_pos{o:Int}(ho:1<=o/\o<=20):1<=fJ o:=by
 rcases twenty ho with rfl|rfl|rfl|rfl|rfl|rfl|rfl|rfl|rfl|rfl|rfl|rfl|rfl|rfl|rfl|rfl|rfl|rfl|rfl|rfl<;>decide
theorem uMakes_any(o:Int)(l:List Int)(a:Option Addr)(cap:Nat)(hfew:l.length<=1000000)(w:World)(hI:b3j w (.slice a l.length cap) l):
  Calls Tryz.prog 88 #[.int .i64 o,.slice a l.length cap] w fun e w'=>e= .returned (.tuple #[.int .i64 (makesO o l).1,.int .i64 (makesO o l).2])/\Bl w w':=by
 have HIn:Hid (∀w,Calls Tryz.prog 59 #[.int .i64 o] w fun e w'=>e= .returned (.agg #[S (bI o),.int .i64 (fJ o:Int),.int .i64 (vM o),.int .i64 (fU o)])/\Bl w w'):=fun w=>a4l o w;have HI:=aB hI;obtain⟨nm,hnm⟩:∃nm,Hid (bI o=nm):=⟨_,rfl⟩
 obtain⟨mn,hmn⟩:∃mn,Hid (fJ o=mn):=⟨_,rfl⟩
 obtain⟨f,hf⟩:∃f,Hid (vM o=f):=⟨_,rfl⟩
 obtain⟨mk,hmk⟩:∃mk,Hid (fU o=mk):=⟨_,rfl⟩
 rw[hnm.o,hmn.o,hf.o,hmk.o] at HIn;clear hI;by_cases ho:1<=o/\o<=20
 case neg=>
  have e:makesO o l=(0,2):=(by unfold makesO;rw[if_pos (.inl ho)]);have hn0:(nm==[])=true:=(by rw[<-hnm.o,c1s ho];rfl);rw[e];clear e ho;go_enter Tryz.func88,Tryz.ntmps88;go_wp2_with fail;refine(HIn.o _).mono ?_;rintro e w1 ⟨rfl,hb1⟩;have HB1:=aB (((Bl.refl w).call hb1).alloc (.cells #[S nm,.int .i64 (mn:Int),.int .i64 f,.int .i64 mk] 110));have HX1:=aB (aN w1 (.cells #[S nm,.int .i64 (mn:Int),.int .i64 f,.int .i64 mk] 110));clear hb1;go_wp2;go_ret2;exact⟨rfl,HB1.o⟩
 have HO:=aB ho;have hn0:(nm==[])=false:=(by rw[<-hnm.o];exact opName_ne ho);by_cases hlen:l.length=mn
 case neg=>
  have e:makesO o l=(0,2):=(by unfold makesO;rw[if_pos (.inr (by rw[hmn.o];exact hlen))]);rw[e];have hne:((l.length:Int) != (mn:Int))=true:=(by simpa using(show ¬(l.length:Int)=(mn:Int) by omega));clear e ho hlen;go_enter Tryz.func88,Tryz.ntmps88;go_wp2_with fail;refine(HIn.o _).mono ?_;rintro e w1 ⟨rfl,hb1⟩;have HB1:=aB (((Bl.refl w).call hb1).alloc (.cells #[S nm,.int .i64 (mn:Int),.int .i64 f,.int .i64 mk] 110));have HX1:=aB (aN w1 (.cells #[S nm,.int .i64 (mn:Int),.int .i64 f,.int .i64 mk] 110));clear hb1;go_wp2;go_ret2;exact⟨rfl,HB1.o⟩
 have hne:((l.length:Int) != (mn:Int))=false:=(by simpa using(show(l.length:Int)=(mn:Int) by omega));have HLEN:=aB hlen;have HPOS:=aB (show 1<=mn from by rw[<-hmn.o];exact opMany_pos ho);have HM:Hid (makesO o l=if l.any badT then(0,2) else if l.any (offT o) then(0,120) else if(6<=o/\o<=12)/\l.headD 0≠0/\l.getLastD 0≠0/\l.headD 0≠l.getLastD 0 then(0,120) else if o=6 then(max (l.headD 0) (l.getLastD 0),0) else(mk,0)):=by
  show _=_;unfold makesO;rw[if_neg (by rw[hmn.o];intro h;rcases h with h|h;exact h ho;exact h hlen)];by_cases h6:o=6
  ·simp only[h6,if_true]
  ·simp only[if_neg h6,<-hmk.o,mk_makes ho h6]
 obtain⟨Z,HZ⟩:∃Z,Hid (makesO o l=Z):=⟨_,rfl⟩
 rw[HZ.o] at HM;rw[HZ.o];have HF:=aB ((ofO_op ho).trans hf.o);clear ho hlen HZ;go_enter Tryz.func88,Tryz.ntmps88;go_wp2_with fail;refine(HIn.o _).mono ?_;rintro e w1 ⟨rfl,hb1⟩;have HB1:=aB (((Bl.refl w).call hb1).alloc (.cells #[S nm,.int .i64 (mn:Int),.int .i64 f,.int .i64 mk] 110));have HX1:=aB (aN w1 (.cells #[S nm,.int .i64 (mn:Int),.int .i64 f,.int .i64 mk] 110));clear hb1;go_wp2_with fail;have HB0:=aB (HB1.o);go_loopw [7] (fun i wr=>∃j:Nat,j<=l.length/\i= .int .i64 (j:Int)/\Hid (l.any badT=(l.drop j).any badT)/\wr=w1.alloc (.cells #[S nm,.int .i64 (mn:Int),.int .i64 f,.int .i64 mk] 110)) (fun i _=>l.length-(intOf i).toNat)
 case atStart=>exact⟨0,dL _,rfl,by simp[Hid],rfl⟩
 case round=>
  obtain⟨j,hj,rfl,HD,hwr⟩:=hrel;have HWR:=aB hwr;have HBW:=aB (show Bl w wr from by rw[hwr];exact HB1.o);clear hwr;by_cases hlt:j<l.length
  ·obtain⟨b,off,rfl,ec⟩:=(HI.o.bl HBW.o).cell hlt;have HN:=aB (HD.o.trans (anyD_drop badT hlt));have hlt':(j:Int)<(l.length:Int):=(by omega);generalize l[j]=t at *;by_cases h1:t<0
   ·have HBD:=aB (HN.o.trans (by simp[badT,h1]):l.any badT=true);go_wp2;go_ret2;exact⟨by rw[HM.o,if_pos HBD.o]<;>rfl,by rw[HWR.o];exact HB1.o⟩
   ·by_cases h2:4<t
    ·have HBD:=aB (HN.o.trans (by simp[badT,h2]):l.any badT=true);go_wp2;go_ret2;exact⟨by rw[HM.o,if_pos HBD.o]<;>rfl,by rw[HWR.o];exact HB1.o⟩
    ·have HND:=aB (HN.o.trans (by simp[badT,h1,h2]):l.any badT=(l.drop (j+1)).any badT);go_wp2;go_roundw
     case rel=>exact⟨j+1,by omega,by go_num,HND.o,HWR.o⟩
     case measure=>simp[intOf];omega
  ·obtain rfl:j=l.length:=by omega
   have HBAD:=aB (HD.o.trans (by rw[dO];rfl):l.any badT=false);have hge:¬((l.length:Int)<(l.length:Int)):=(by omega);have hX:=HX1.o;rw[<-HWR.o] at hX;have HX:=aB hX;have HB:=aB (show Bl w wr from by rw[HWR.o];exact HB1.o);clear hX HWR HB1 HX1 HB0;obtain⟨b,off,rfl,ea⟩:=(HI.o.bl HB.o).cell (j:=0) (by have:=HPOS.o;have:=HLEN.o;omega);obtain⟨b',off',eb',eb⟩:=(HI.o.bl HB.o).cell (j:=l.length-1) (by have:=HPOS.o;have:=HLEN.o;omega);obtain⟨rfl,rfl⟩:b=b'/\off=off':=(by simpa using eb');clear eb';have hl0:0<l.length:=(by have:=HPOS.o;have:=HLEN.o;omega);have HA0:=aB (show l.headD 0=l[0] from by cases l with |nil=>cases hl0|cons x r=>rfl);have HB9:=aB (show l.getLastD 0=l[l.length-1] from by rw[<-List.getLast_eq_getElem (List.ne_nil_of_length_pos hl0)];cases l with |nil=>cases hl0|cons x r=>rfl);have hi0:0<(l.length:Int):=(by omega);have hi1:(l.length:Int)-1<(l.length:Int):=(by omega);have hi2:0<=(l.length:Int)-1:=(by omega);have hi3:((l.length:Int)-1).toNat=l.length-1:=(by omega);rw[Nat.add_zero] at ea;generalize l[0]=ta at *;generalize l[l.length-1]=tb at *;have HWF:Hid ((f=0/\(o==6)=false/\(o==19)=false)\/(f=0/\(o==6)=true)\/(f=0/\(o==6)=false/\(o==19)=true)\/(f≠0/\(o==6)=false/\(o==19)=false)):=by
    show _\/_;rw[<-HF.o];rcases twenty HO.o with rfl|rfl|rfl|rfl|rfl|rfl|rfl|rfl|rfl|rfl|rfl|rfl|rfl|rfl|rfl|rfl|rfl|rfl|rfl|rfl<;>decide
   have HOF:Hid (∀t,offT o t=((decide (f≠0)&&decide (t≠0)&&decide (t≠f))||(((o==6)||(o==19))&&(decide (t=1)||decide (t=2))))):=fun t=>by
    unfold offT;rw[HF.o];rfl
   clear hge;go_wp2_with fail;go_loopw [10] (fun i w2=>∃j:Nat,j<=l.length/\i= .int .i64 (j:Int)/\Hid (l.any (offT o)=(l.drop j).any (offT o))/\Bl w w2/\w2.heap[w1.heap.size]?=some (.cells #[S nm,.int .i64 (mn:Int),.int .i64 f,.int .i64 mk] 110 (0,0))) (fun i _=>l.length-(intOf i).toNat)
   case atStart=>exact⟨0,dL _,rfl,by simp[Hid],HB.o,HX.o⟩
   case round=>
    obtain⟨j,hj,rfl,HD2,hb2,hx2⟩:=hrel;have HB2:=aB hb2;have HX2:=aB hx2;have c2:wr.cell? ⟨w1.heap.size,2,none⟩=some (.int .i64 f):=(by rw[aG hx2];rfl);have c3:wr.cell? ⟨w1.heap.size,3,none⟩=some (.int .i64 mk):=(by rw[aG hx2];rfl);clear hb2 hx2 ea eb HB HX;by_cases hlt:j<l.length
    ·obtain⟨b',off',eb',ec⟩:=(HI.o.bl HB2.o).cell hlt;obtain⟨rfl,rfl⟩:b=b'/\off=off':=(by simpa using eb');clear eb';have HN:=aB (HD2.o.trans (anyD_drop (offT o) hlt));have hlt':(j:Int)<(l.length:Int):=(by omega);generalize l[j]=t at *;have HOT:=aB (HOF.o t);rcases HWF.o with⟨rfl,g6,g19⟩|⟨rfl,g6⟩|⟨rfl,g6,g19⟩|⟨hf0,g6,g19⟩
     ·have HOT2:=aB (HOT.o.trans (by rw[g6,g19];rfl):offT o t=false);go_wp2_with fail
      go_quiet (fail)
      go_wp2;go_roundw
      case rel=>exact⟨j+1,by omega,by go_num,HN.o.trans (by rw[HOT2.o];rfl),HB2.o.call (Bl.drewN _ _),HX2.o⟩
      case measure=>simp[intOf];omega
     ·by_cases t1:t=1
      ·have HOT2:=aB (HOT.o.trans (by rw[g6,t1];rfl):offT o t=true);have q1:(t==1)=true:=(by simpa using t1);clear t1;go_wp2_with fail
       go_quiet (fail)
       go_wp2;go_ret2;exact⟨by rw[HM.o,if_neg (by rw[HBAD.o];decide),if_pos (by rw[HN.o,HOT2.o];rfl)]<;>rfl,HB2.o.call (Bl.drewN _ _)⟩
      ·by_cases t2:t=2
       ·have HOT2:=aB (HOT.o.trans (by rw[g6,t2];rfl):offT o t=true);have q1:(t==1)=false:=(by simpa using t1);have q2:(t==2)=true:=(by simpa using t2);clear t1 t2;go_wp2_with fail
        go_quiet (fail)
        go_wp2;go_ret2;exact⟨by rw[HM.o,if_neg (by rw[HBAD.o];decide),if_pos (by rw[HN.o,HOT2.o];rfl)]<;>rfl,HB2.o.call (Bl.drewN _ _)⟩
       ·have HOT2:=aB (HOT.o.trans (by simp[t1,t2]):offT o t=false);have q1:(t==1)=false:=(by simpa using t1);have q2:(t==2)=false:=(by simpa using t2);clear t1 t2;go_wp2_with fail
        go_quiet (fail)
        go_wp2;go_roundw
        case rel=>exact⟨j+1,by omega,by go_num,HN.o.trans (by rw[HOT2.o];rfl),HB2.o.call (Bl.drewN _ _),HX2.o⟩
        case measure=>simp[intOf];omega
     ·by_cases t1:t=1
      ·have HOT2:=aB (HOT.o.trans (by rw[g6,g19,t1];rfl):offT o t=true);have q1:(t==1)=true:=(by simpa using t1);clear t1;go_wp2_with fail
       go_quiet (fail)
       go_wp2;go_ret2;exact⟨by rw[HM.o,if_neg (by rw[HBAD.o];decide),if_pos (by rw[HN.o,HOT2.o];rfl)]<;>rfl,HB2.o.call (Bl.drewN _ _)⟩
      ·by_cases t2:t=2
       ·have HOT2:=aB (HOT.o.trans (by rw[g6,g19,t2];rfl):offT o t=true);have q1:(t==1)=false:=(by simpa using t1);have q2:(t==2)=true:=(by simpa using t2);clear t1 t2;go_wp2_with fail
        go_quiet (fail)
        go_wp2;go_ret2;exact⟨by rw[HM.o,if_neg (by rw[HBAD.o];decide),if_pos (by rw[HN.o,HOT2.o];rfl)]<;>rfl,HB2.o.call (Bl.drewN _ _)⟩
       ·have HOT2:=aB (HOT.o.trans (by simp[t1,t2]):offT o t=false);have q1:(t==1)=false:=(by simpa using t1);have q2:(t==2)=false:=(by simpa using t2);clear t1 t2;go_wp2_with fail
        go_quiet (fail)
        go_wp2;go_roundw
        case rel=>exact⟨j+1,by omega,by go_num,HN.o.trans (by rw[HOT2.o];rfl),HB2.o.call (Bl.drewN _ _),HX2.o⟩
        case measure=>simp[intOf];omega
     ·have gf:(f != 0)=true:=by simpa using hf0
      by_cases t0:t=0
      ·have HOT2:=aB (HOT.o.trans (by simp[t0,g6,g19]):offT o t=false);have q1:(t != 0)=false:=(by simpa using t0);clear t0 hf0;go_wp2_with fail
       go_quiet (fail)
       go_wp2;go_roundw
       case rel=>exact⟨j+1,by omega,by go_num,HN.o.trans (by rw[HOT2.o];rfl),HB2.o.call (Bl.drewN _ _),HX2.o⟩
       case measure=>simp[intOf];omega
      ·have q1:(t != 0)=true:=by simpa using t0
       by_cases tf:t=f
       ·have HOT2:=aB (HOT.o.trans (by simp[tf,g6,g19]):offT o t=false);have q2:(t != f)=false:=(by simpa using tf);clear t0 hf0 tf;go_wp2_with fail
        go_quiet (fail)
        go_wp2;go_roundw
        case rel=>exact⟨j+1,by omega,by go_num,HN.o.trans (by rw[HOT2.o];rfl),HB2.o.call (Bl.drewN _ _),HX2.o⟩
        case measure=>simp[intOf];omega
       ·have HOT2:=aB (HOT.o.trans (by simp[t0,tf,hf0]):offT o t=true);have q2:(t != f)=true:=(by simpa using tf);clear t0 hf0 tf;go_wp2_with fail
        go_quiet (fail)
        go_wp2;go_ret2;exact⟨by rw[HM.o,if_neg (by rw[HBAD.o];decide),if_pos (by rw[HN.o,HOT2.o];rfl)]<;>rfl,HB2.o.call (Bl.drewN _ _)⟩
    ·obtain rfl:j=l.length:=by omega
     have HOFF:=aB (HD2.o.trans (by rw[dO];rfl):l.any (offT o)=false);have hge:¬((l.length:Int)<(l.length:Int)):=(by omega);have HMM:=aB (HM.o.trans (by rw[if_neg (by rw[HBAD.o];decide),if_neg (by rw[HOFF.o];decide),HA0.o,HB9.o]):Z=if(6<=o/\o<=12)/\ta≠0/\tb≠0/\ta≠tb then(0,120) else if o=6 then(max ta tb,0) else(mk,0));clear HM HOF HWF;by_cases hin:6<=o/\o<=12
     ·have g1:decide (6<=o)=true:=by simpa using hin.1
      have g2:decide (o<=12)=true:=(by simpa using hin.2);by_cases ha:ta=0
      ·have q1:(ta != 0)=false:=by simpa using ha
       have HMN:=aB (HMM.o.trans (if_neg (fun h=>h.2.1 ha)));clear hin ha;by_cases h6:o=6
       ·have g6:(o==6)=true:=by simpa using h6
        have HMZ:=aB (HMN.o.trans (if_pos h6));clear h6;go_wp2;go_ret2;exact⟨by rw[HMZ.o]<;>rfl,HB2.o⟩
       ·have g6:(o==6)=false:=by simpa using h6
        have HMZ:=aB (HMN.o.trans (if_neg h6));clear h6;go_wp2;go_ret2;exact⟨by rw[HMZ.o]<;>rfl,HB2.o⟩
      ·have q1:(ta != 0)=true:=by simpa using ha
       by_cases hb:tb=0
       ·have q2:(tb != 0)=false:=by simpa using hb
        have HMN:=aB (HMM.o.trans (if_neg (fun h=>h.2.2.1 hb)));clear hin ha hb;by_cases h6:o=6
        ·have g6:(o==6)=true:=by simpa using h6
         have HMZ:=aB (HMN.o.trans (if_pos h6));clear h6;go_wp2;go_ret2;exact⟨by rw[HMZ.o]<;>rfl,HB2.o⟩
        ·have g6:(o==6)=false:=by simpa using h6
         have HMZ:=aB (HMN.o.trans (if_neg h6));clear h6;go_wp2;go_ret2;exact⟨by rw[HMZ.o]<;>rfl,HB2.o⟩
       ·have q2:(tb != 0)=true:=by simpa using hb
        by_cases hab:ta=tb
        ·have q3:(ta != tb)=false:=by simpa using hab
         have HMN:=aB (HMM.o.trans (if_neg (fun h=>h.2.2.2 hab)));clear hin ha hb hab;by_cases h6:o=6
         ·have g6:(o==6)=true:=by simpa using h6
          have HMZ:=aB (HMN.o.trans (if_pos h6));clear h6;go_wp2;go_ret2;exact⟨by rw[HMZ.o]<;>rfl,HB2.o⟩
         ·have g6:(o==6)=false:=by simpa using h6
          have HMZ:=aB (HMN.o.trans (if_neg h6));clear h6;go_wp2;go_ret2;exact⟨by rw[HMZ.o]<;>rfl,HB2.o⟩
        ·have q3:(ta != tb)=true:=by simpa using hab
         have HMN:=aB (HMM.o.trans (if_pos ⟨hin,ha,hb,hab⟩));clear hin ha hb hab;go_wp2;go_ret2;exact⟨by rw[HMN.o]<;>rfl,HB2.o⟩
     ·have HMN:=aB (HMM.o.trans (if_neg (fun h=>hin h.1)));have h6:o≠6:=(by omega);have g6:(o==6)=false:=(by simpa using h6);have HMZ:=aB (HMN.o.trans (if_neg h6));by_cases h5:6<=o
      ·have g1:decide (6<=o)=true:=by simpa using h5
       have g2:decide (o<=12)=false:=(by simpa using(show ¬o<=12 by omega));have g3:¬o<=12:=(by omega);clear hin h6;go_wp2;go_ret2;exact⟨by rw[HMZ.o]<;>rfl,HB2.o⟩
      ·have g1:decide (6<=o)=false:=by simpa using h5
       clear hin h6;go_wp2;go_ret2;exact⟨by rw[HMZ.o]<;>rfl,HB2.o⟩
end
end Go.Proofs.YtkimpcmkminffaaGreatDoor
