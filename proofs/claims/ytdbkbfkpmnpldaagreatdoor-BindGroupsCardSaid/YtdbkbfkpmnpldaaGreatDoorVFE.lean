/- Texts beside the shared ones. -/
import Derived.Test.YtdbkbfkpmnpldaaGreatDoorVX0
import Derived.Test.YtdbkbfkpmnpldaaGreatDoorVFD
namespace Go.Proofs.YtdbkbfkpmnpldaaGreatDoor
open Go.RowKit
open _root_.Bool renaming and_eq_true->aQ,false_and->pK,true_and->rC
open _root_.Go.Lib renaming hid->aB
open _root_.List renaming drop_eq_getElem_cons->aZ,drop_length->dO,getElem_mem->dS,length_map->mD,take_of_length_le->jS
open _root_.Nat renaming zero_le->dL
set_option maxRecDepth 100000
set_option maxHeartbeats 8000000
section
theorem allV_drop{α:Type}(p:α->Bool){l:List α}{j:Nat}(hj:j<l.length):(l.drop j).all p=(p l[j]&&(l.drop (j+1)).all p):=by
 rw[aZ hj];rfl
theorem tmod_up{n:Int}(h:n.tmod 4294967296<0):n.tmod 4294967296+4294967296=n % 4294967296:=by
 rw[Int.tmod_eq_emod] at h⊢;split at h<;>rename_i hc
 ·omega
 ·rw[if_neg hc];omega
theorem tmod_same{n:Int}(h:¬n.tmod 4294967296<0):n.tmod 4294967296=n % 4294967296:=by
 rw[Int.tmod_eq_emod] at h⊢;split at h<;>rename_i hc
 ·rw[if_pos hc];omega
 ·rw[if_neg hc];omega
theorem tdiv_low(n:Int):(n-n % 4294967296).tdiv 4294967296=n / 4294967296:=by
 obtain⟨q,r,e1,e2,h0,h1⟩:∃q r:Int,n / 4294967296=q/\n % 4294967296=r/\0<=r/\n=q * 4294967296+r:=⟨_,_,rfl,rfl,by omega,by omega⟩
 rw[e1,e2,show n-r=q * 4294967296 by omega];exact Int.mul_tdiv_cancel _ (by decide)
theorem wnull_any(v:Vl)(w:World):Calls Tryz.prog 70 #[VlV v] w fun e w'=>e= .returned (.bool (v.1==0))/\Bl w w':=by
 obtain⟨v1,v2,v3⟩:=v;go_enter Tryz.func70,Tryz.ntmps70;go_wp2;go_ret;exact⟨rfl,(Bl.refl w).alloc _⟩
theorem wrow_any{l:List Vl}(hlen:l.length<=1000000)(hK:∀v∈l,I64 v.1)(W:World)(a:Option Addr)(cap:Nat)(hR:ReadsVl (fun _=>True) W (.slice a l.length cap) l):
  Calls Tryz.prog 43 #[.slice a l.length cap] W fun e w'=>e= .returned (.bool (rowB l))/\Bl W w':=by
 obtain⟨a',cap',e,hc⟩:=hR.shape;obtain⟨rfl,rfl⟩:a=a'/\cap=cap':=(by simpa using e);have HC:=aB hc;have HK:=aB hK;clear hR hc e hK;go_enter Tryz.func43,Tryz.ntmps43;go_wp2_with fail;go_loopw [3] (fun i wr=>∃j:Nat,j<=l.length/\i= .int .i64 (j:Int)/\Hid (rowB l=(l.drop j).all okVl)/\Hid (Bl W wr)) (fun i _=>l.length-(intOf i).toNat)
 case atStart=>exact⟨0,dL _,rfl,by simp[Hid,rowB],Bl.refl W⟩
 case round=>
  obtain⟨j,hj,rfl,HD,HB⟩:=hrel;by_cases hlt:j<l.length
  ·obtain⟨b,off,rfl,-,hbl,h3⟩:=HC.o j hlt;obtain⟨e0,e1,e2⟩:=(h3.keep (HB.o.block b hbl)).three;have HN:=aB (HD.o.trans (allV_drop okVl hlt));have HKY:=aB (HK.o _ (dS hlt));have hlt':(j:Int)<(l.length:Int):=(by omega);clear h3;generalize l[j]=y at *;obtain⟨y1,y2,y3⟩:=y;simp only at e0 e1 e2;go_wp2_with fail;refine(tN y1 y2 y3 HKY.o.1 HKY.o.2 _).mono ?_;rintro e w1 ⟨rfl,hb1⟩;have HB1:=aB (HB.o.call hb1);clear hb1 e0 e1 e2;by_cases hok:chk y1 y2 y3=0
   ·have HO:=aB (HN.o.trans (by rw[show okVl (y1,y2,y3)=true from by simp[okVl,hok],rC]):rowB l=(l.drop (j+1)).all okVl);rw[hok];go_wp2;go_roundw
    case rel=>exact⟨j+1,by omega,by go_num,HO.o,HB1.o⟩
    case measure=>simp[intOf];omega
   ·have HO:=aB (HN.o.trans (by rw[show okVl (y1,y2,y3)=false from by simp[okVl,hok],pK]):rowB l=false);have q0:(chk y1 y2 y3 != 0)=true:=(by simpa using hok);clear hok;go_wp2;go_ret;exact⟨by rw[HO.o]<;>rfl,HB1.o⟩
  ·obtain rfl:j=l.length:=by omega
   have HO:=aB (HD.o.trans (by rw[dO];rfl):rowB l=true);go_wp2;go_ret;exact⟨by rw[HO.o]<;>rfl,HB.o⟩
theorem wtotal_any{W:World}{a:Option Addr}{cap:Nat}{l:List Vl}{p:Nat->Prop}(hlen:l.length<=1000000)(hI:∀y∈l,I64 y.2.1)(hR:ReadsVl p W (.slice a l.length cap) l):
  Calls Tryz.prog 97 #[.slice a l.length cap] W fun e w'=>e= .returned (.tuple #[VlV (totalV l).1,.int .i64 (totalV l).2])/\Bl W w':=by
 obtain⟨a',cap',e,hc⟩:=hR.shape;obtain⟨rfl,rfl⟩:a=a'/\cap=cap':=(by simpa using e);have HC:=aB hc;have HI:=aB hI;obtain⟨R,HR⟩:∃R,Hid (totalV l=R):=⟨_,rfl⟩
 rw[HR.o];have HB0:=aB ((Bl.refl W).alloc (.cells #[.int .i64 0,.int .i64 0,S []] 26));have HR0:=aB (aN W (.cells #[.int .i64 0,.int .i64 0,S []] 26));clear hR hc e hI;go_enter Tryz.func97,Tryz.ntmps97;go_wp2_with fail;go_loopw [4,5,6] (fun hi lo i wr=>∃j:Nat,j<=l.length/\i= .int .i64 (j:Int)/\hi= .int .i64 (hiS ((l.map fun v=>v.2.1).take j))/\lo= .int .i64 (loS ((l.map fun v=>v.2.1).take j))/\wr=W.alloc (.cells #[.int .i64 0,.int .i64 0,S []] 26)) (fun _ _ i _=>l.length-(intOf i).toNat)
 case atStart=>exact⟨0,dL _,rfl,rfl,rfl,rfl⟩
 case round=>
  obtain⟨j,hj,rfl,rfl,rfl,hwr⟩:=hrel;have HHR:=aB (show wr.heap[W.heap.size]?=some (.cells #[.int .i64 0,.int .i64 0,S []] 26 (0,0)) from by rw[hwr];exact HR0.o);have HB:=aB (show Bl W wr from by rw[hwr];exact HB0.o);have HW:=aB hwr;clear hwr;have hib:=hi_bound ((l.map fun v=>v.2.1).take j) fun n hn=>by
   obtain⟨y,hy,rfl⟩:=List.mem_map.1 (List.mem_of_mem_take hn);exact HI.o y hy
  have lob:=lo_bound ((l.map fun v=>v.2.1).take j);rw[List.length_take,mD] at hib lob;by_cases hlt:j<l.length
  ·obtain⟨b,off,rfl,-,hbl,h3⟩:=HC.o j hlt;obtain⟨-,e1,-⟩:=(h3.keep (HB.o.block b hbl)).three;have hlt':(j:Int)<(l.length:Int):=(by omega);have hy64:=HI.o _ (dS hlt);have HS1:=aB (show hiS ((l.map fun v=>v.2.1).take (j+1))=hiS ((l.map fun v=>v.2.1).take j)+l[j].2.1 / 4294967296 from by rw[takeD_snoc (l.map fun v=>v.2.1) (by simpa using hlt),hi_snoc];simp);have HS2:=aB (show loS ((l.map fun v=>v.2.1).take (j+1))=loS ((l.map fun v=>v.2.1).take j)+l[j].2.1 % 4294967296 from by rw[takeD_snoc (l.map fun v=>v.2.1) (by simpa using hlt),lo_snoc];simp);clear h3;generalize l[j].2.1=y at *;generalize hiS ((l.map fun v=>v.2.1).take j)=x at *;generalize loS ((l.map fun v=>v.2.1).take j)=z at *;unfold I64 at hy64;obtain⟨hy0,hy1⟩:=hy64;have hx0: -2147483648000000<=x:=(by omega);have hx1:x<=2147483648000000:=(by omega);have hz0:0<=z:=(by omega);have hz1:z<=4294967295000000:=(by omega);have HM1:=aB (@tmod_up y);have HM2:=aB (@tmod_same y);have HD:=aB (tdiv_low y);have hm:(y.tmod 4294967296).natAbs<=4294967295:=by
    rw[Int.natAbs_tmod];have:=Nat.mod_lt y.natAbs (show 0<(4294967296:Int).natAbs by decide);have e:(4294967296:Int).natAbs=4294967296:=rfl;omega
   have hw1:IntKind.i64.wrap (y.tmod 4294967296)=y.tmod 4294967296:=wrap_fit (by unfold fits64;rw[aQ];simp only[decide_eq_true_eq];omega);have hq0: -2147483648<=y / 4294967296:=(by omega);have hq1:y / 4294967296<=2147483647:=(by omega);have hr0:0<=y % 4294967296:=(by omega);have hr1:y % 4294967296<=4294967295:=(by omega);have hdd:y-y % 4294967296=y / 4294967296 * 4294967296:=(by omega);have HTD:=HD.o;rw[hdd] at HTD;have HDD:=aB hdd;clear hib lob HD hdd;obtain⟨r0,hr0e⟩:∃r0,y.tmod 4294967296=r0:=⟨_,rfl⟩
   rw[hr0e] at HM1 HM2 hm hw1;generalize y % 4294967296=r at *;generalize y / 4294967296=q at *;have hm0: -4294967295<=r0:=(by omega);have hm1:r0<=4294967295:=(by omega);obtain⟨d,hd⟩:∃d,q * 4294967296=d:=⟨_,rfl⟩
   have hd0: -9223372036854775808<=d:=(by omega);have hd1:d<=9223372036854775807:=(by omega);rw[hd] at HTD HDD;have HQ:=aB HTD;clear hd hm HTD;by_cases hn:r0<0
   ·have hr:=HM1.o hn;have hyd:=HDD.o;have hqd:=HQ.o;clear HM1 HM2;go_wp2;go_roundw
    case rel=>exact⟨j+1,by omega,by go_num,by rw[HS1.o],by rw[HS2.o],HW.o⟩
    case measure=>simp[intOf];omega
   ·obtain rfl:=HM2.o hn;have hyd:=HDD.o;have hqd:=HQ.o;clear HM1 HM2;go_wp2;go_roundw
    case rel=>exact⟨j+1,by omega,by go_num,by rw[HS1.o],by rw[HS2.o],HW.o⟩
    case measure=>simp[intOf];omega
  ·obtain rfl:j=l.length:=by omega
   have hge:¬((l.length:Int)<(l.length:Int)):=(by omega);rw[jS (by simp)] at hib lob;rw[jS (by simp)];have HT:=aB (total_hi l);have HBK:=aB (halves_back (l.map fun v=>v.2.1));unfold totalV at HR;generalize hx:hiS (l.map fun v=>v.2.1)=x at *;generalize hy:loS (l.map fun v=>v.2.1)=y at *;clear hx hy;have hx0: -2147483648000000<=x:=(by omega);have hx1:x<=2147483648000000:=(by omega);have hy0:0<=y:=(by omega);have hy1:y<=4294967295000000:=(by omega);have hq:y.tdiv 4294967296=y / 4294967296:=Int.tdiv_eq_ediv_of_nonneg hy0;have hr:y.tmod 4294967296=y % 4294967296:=Int.tmod_eq_emod_of_nonneg hy0;have hq0:0<=y / 4294967296:=(by omega);have hq1:y / 4294967296<=1000000:=(by omega);have hr0:0<=y % 4294967296:=(by omega);have hr1:y % 4294967296<=4294967295:=(by omega);have HV:Hid (R=if -2147483648<=x+y / 4294967296/\x+y / 4294967296<=2147483647 then((2,(x+y / 4294967296) * 4294967296+y % 4294967296,[]),0) else(zVl,122)):=by
    show _=_;rw[<-HR.o,<-HBK.o];simp only;rw[HBK.o,HT.o];by_cases h: -2147483648<=x+y / 4294967296/\x+y / 4294967296<=2147483647
    ·rw[if_pos h,if_pos (by rw[decide_eq_true h.1,decide_eq_true (by omega)];rfl)]
    ·rw[if_neg h,if_neg (by rw[aQ];simp only[decide_eq_true_eq];omega)]
   clear HR HT HBK hib lob;generalize y / 4294967296=q at *;generalize y % 4294967296=r at *;by_cases h2:x+q<=2147483647
   ·by_cases h1: -2147483648<=x+q
    ·have HV2:=aB (HV.o.trans (if_pos ⟨h1,h2⟩));go_wp2_with (refine bA (g:=W.heap.size) (i:=0) rfl rfl rfl rfl (cells3 (2,(x+q) * 4294967296+r,[])) HHR.o rfl rfl vlInfo rfl ?_)
     intro w9 hB9 hX9;obtain⟨q0,q1,q2⟩:=three3 hX9;go_wp2;exact bodyPost_ret (v:= .tuple #[VlV (2,(x+q) * 4294967296+r,[]),.int .i64 0]) (by simp[results,Tryz.results97,go_sem,q0,q1,q2]) rfl ⟨by rw[HV2.o],hB9.bl HB.o (by omega)⟩
    ·have HV2:=aB (HV.o.trans (if_neg (fun h=>h1 h.1)));go_wp2_with (refine bA (g:=W.heap.size) (i:=0) rfl rfl rfl rfl (cells3 zVl) HHR.o rfl rfl vlInfo rfl ?_)
     intro w9 hB9 hX9;obtain⟨q0,q1,q2⟩:=three3 hX9;go_wp2;exact bodyPost_ret (v:= .tuple #[VlV zVl,.int .i64 122]) (by simp[results,Tryz.results97,go_sem,q0,q1,q2]) rfl ⟨by rw[HV2.o],hB9.bl HB.o (by omega)⟩
   ·have HV2:=aB (HV.o.trans (if_neg (fun h=>h2 h.2)));go_wp2_with (refine bA (g:=W.heap.size) (i:=0) rfl rfl rfl rfl (cells3 zVl) HHR.o rfl rfl vlInfo rfl ?_)
    intro w9 hB9 hX9;obtain⟨q0,q1,q2⟩:=three3 hX9;go_wp2;exact bodyPost_ret (v:= .tuple #[VlV zVl,.int .i64 122]) (by simp[results,Tryz.results97,go_sem,q0,q1,q2]) rfl ⟨by rw[HV2.o],hB9.bl HB.o (by omega)⟩
end
end Go.Proofs.YtdbkbfkpmnpldaaGreatDoor
