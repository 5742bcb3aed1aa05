/- Texts beside the shared ones. -/
import Derived.Test.YtkimpcmkminffaaGreatDoorWX0
import Derived.Test.YtkimpcmkminffaaGreatDoorWFR
import Derived.Test.YtkimpcmkminffaaGreatDoorWM9
namespace Go.Proofs.YtkimpcmkminffaaGreatDoor
open Go.RowKit
open _root_.Bool renaming false_and->pK,true_and->rC
open _root_.Go.Lib renaming hid->aB
open _root_.List renaming getElem?_eq_getElem->aP
open _root_.Nat renaming le_refl->aH,zero_le->dL
set_option maxRecDepth 100000
set_option maxHeartbeats 4000000
section
def smallR(r:List Vl):Bool:=decide (r.length<=20)&&r.all fun v=>decide (v.2.2.length<=1100)
def smallB(rows:List (List Vl)):Bool:=rows.all smallR&&decide (rows.length<=20)
theorem small20_any(rows:List (List Vl))(hm:rows.length<=1000000000000000)(W:World)(ra:Option Addr)(rc:Nat)(hr:ReadsRw (fun _=>True) W (.slice ra rows.length rc) rows):Calls Tryz.prog 6 #[.slice ra rows.length rc] W fun e w'=>e= .returned (.bool (smallB rows))/\W=w':=by
 obtain⟨a,cap,e,hc⟩:=hr;obtain⟨rfl,rfl⟩:ra=a/\rc=cap:=(by simpa using e);have HC:=aB (fun(j:Nat) (hj:j<rows.length)=>hc j _ (aP hj));clear hc e;obtain⟨R,HR⟩:∃R,Hid (smallB rows=R):=⟨_,rfl⟩
 rw[HR.o];obtain⟨q,hq⟩:∃q,rows.length=q:=⟨_,rfl⟩
 have HQ:=aB hq;rw[hq] at hm⊢;clear hq;go_enter Tryz.func6,Tryz.ntmps6;go_wp2_with fail;go_loopw [3] (fun i wr=>∃j:Nat,j<=q/\i= .int .i64 (j:Int)/\Hid (rows.all smallR=(rows.drop j).all smallR)/\W=wr) (fun i _=>q-(intOf i).toNat)
 case atStart=>exact⟨0,dL _,rfl,rfl,rfl⟩
 case round=>
  obtain⟨j,hj,rfl,HD,rfl⟩:=hrel;by_cases hlt:j<q
  ·obtain⟨b,off,s,rfl,-,hbl,hs,hv⟩:=HC.o j (by rw[HQ.o];exact hlt);have HD2:=aB (HD.o.trans (allV_drop smallR (by rw[HQ.o];exact hlt)));obtain⟨va,vc,rfl,hcs⟩:=hv.shape;have HCS:=aB hcs;have hlt':(j:Int)<(q:Int):=(by omega);have HS:=aB (show smallB rows=(rows.all smallR&&decide (rows.length<=20)) from rfl);clear hv hcs;generalize rows[j]'(by rw[HQ.o];exact hlt)=row at *;obtain⟨n,hn⟩:∃n,row.length=n:=⟨_,rfl⟩
   have HN:=aB hn;rw[hn] at hs;clear hn;by_cases h20:n<=20
   ·have g20:¬(20:Int)<(n:Int):=by omega
    have hn9:n<=1000:=(by omega);go_wp2_with fail;go_loopw [4] (fun i wr=>∃p:Nat,p<=n/\i= .int .i64 (p:Int)/\Hid (row.all (fun v=>decide (v.2.2.length<=1100))=(row.drop p).all fun v=>decide (v.2.2.length<=1100))/\W=wr) (fun i _=>n-(intOf i).toNat)
    case atStart=>exact⟨0,dL _,rfl,rfl,rfl⟩
    case round=>
     obtain⟨p,hp,rfl,HE,rfl⟩:=hrel;by_cases hlp:p<n
     ·obtain⟨b2,off2,rfl,-,hbl2,h3⟩:=HCS.o p (by rw[HN.o];exact hlp);have HE2:=aB (HE.o.trans (allV_drop (fun v:Vl=>decide (v.2.2.length<=1100)) (by rw[HN.o];exact hlp)));obtain⟨-,-,e2⟩:=h3.three;have hlp':(p:Int)<(n:Int):=(by omega);clear h3;generalize (row[p]'(by rw[HN.o];exact hlp)).2.2=x at *;by_cases hx:x.length<=1100
      ·have gx:¬(1100:Int)<(x.length:Int):=by omega
       have HE3:=aB (HE2.o.trans (by rw[decide_eq_true hx,rC]));clear hx;go_wp2;go_roundw
       case rel=>exact⟨p+1,by omega,by go_num,HE3.o,by first |rfl|trivial⟩
       case measure=>simp[intOf];omega
      ·have gx:(1100:Int)<(x.length:Int):=by omega
       have HE3:=aB (HE2.o.trans (by rw[decide_eq_false hx,pK]));have HRF:=aB (show R=false from by rw[<-HR.o,HS.o,HD2.o];simp only[smallR];rw[HE3.o];simp);clear hx;go_wp2;go_ret;exact⟨by rw[HRF.o]<;>rfl,rfl⟩
     ·obtain rfl:n=p:=by omega
      have HE3:=aB (HE.o.trans (by rw[List.drop_of_length_le (by rw[HN.o];exact aH _)];rfl):(row.all fun v=>decide (v.2.2.length<=1100))=true);have hge:¬((n:Int)<(n:Int)):=(by omega);have HD3:=aB (HD2.o.trans (by rw[show smallR row=true from by unfold smallR;rw[HE3.o,HN.o,decide_eq_true h20];rfl,rC]));go_wp2;go_roundw
      case rel=>exact⟨j+1,by omega,by go_num,HD3.o,by first |rfl|trivial⟩
      case measure=>simp[intOf];omega
   ·have g20:(20:Int)<(n:Int):=by omega
    have HRF:=aB (show R=false from by rw[<-HR.o,HS.o,HD2.o];simp only[smallR];rw[HN.o,decide_eq_false h20];simp);clear h20;go_wp2;go_ret;exact⟨by rw[HRF.o]<;>rfl,rfl⟩
  ·obtain rfl:q=j:=by omega
   have HD3:=aB (HD.o.trans (by rw[List.drop_of_length_le (by rw[HQ.o];exact aH _)];rfl):rows.all smallR=true);have hge:¬((q:Int)<(q:Int)):=(by omega);have HRT:=aB (show R=decide (q<=20) from by rw[<-HR.o];unfold smallB;rw[HD3.o,HQ.o,rC]);by_cases h20:q<=20
   ·have g20:(q:Int)<=20:=by omega
    rw[decide_eq_true h20] at HRT;clear h20;go_wp2;go_ret;exact⟨by rw[HRT.o]<;>rfl,rfl⟩
   ·have g20:¬(q:Int)<=20:=by omega
    rw[decide_eq_false h20] at HRT;clear h20;go_wp2;go_ret;exact⟨by rw[HRT.o]<;>rfl,rfl⟩
end
end Go.Proofs.YtkimpcmkminffaaGreatDoor
