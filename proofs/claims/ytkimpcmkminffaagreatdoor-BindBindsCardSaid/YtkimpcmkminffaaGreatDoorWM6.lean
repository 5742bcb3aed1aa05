/- Texts beside the shared ones. -/
import Derived.Test.YtkimpcmkminffaaGreatDoorWX0
import Derived.Test.YtkimpcmkminffaaGreatDoorWM5
namespace Go.Proofs.YtkimpcmkminffaaGreatDoor
open Go.RowKit
open _root_.Go.Act renaming put->aK
open _root_.Array renaming getElem?_eq_some_iff->aC
open _root_.Bool renaming and_eq_true->aQ
open _root_.Go.Lib renaming cell_of_heap->aG,frozen_of_heap->aJ,hid->aB
open _root_.List renaming all_eq_true->jA,getD_eq_getElem?_getD->lY,length_cons->aX,length_map->mD,mem_cons->dD,mem_of_getElem?->dJ,mem_singleton->gQ,setIfInBounds_toArray->aA,set_cons_succ->aF,set_cons_zero->aD
open _root_.Nat renaming le_refl->aH,le_trans->jH,lt_of_lt_of_le->gK
open _root_.Go.Region renaming wanted->jG
set_option maxRecDepth 100000
set_option maxHeartbeats 16000000
section
theorem summed_count{l:List Vl}{rows args:Nat}(h:args≠0):summedV gX l rows args=((2,((l.filter fun v=>v.1 != 0).length:Int),[]),0):=by
 unfold summedV;simp only[if_true];rw[if_neg h]
theorem summed_nil{n:List UInt8}{l:List Vl}{rows args:Nat}(hn:n≠gX)(h:(l.filter fun v=>v.1 != 0)=[]):summedV n l rows args=(zVl,0):=by
 unfold summedV;simp only;rw[if_neg hn,h]
theorem summed_sum{l L:List Vl}{a:Vl}{r:List Vl}{rows args:Nat}(h:(l.filter fun v=>v.1 != 0)=L)(hL:L=a::r):summedV c1m l rows args=if L.any (fun v=>v.1 != 2)=true then(zVl,120) else totalV L:=by
 unfold summedV;simp only;rw[if_neg (by decide),h,hL];simp only[if_true]
theorem summed_best{n:List UInt8}{l:List Vl}{a:Vl}{r:List Vl}{rows args:Nat}(hn:n≠gX)(hs:n≠c1m)(h:(l.filter fun v=>v.1 != 0)=a::r):summedV n l rows args=(r.foldl (bestV (n==c1n)) a,0):=by
 unfold summedV;simp only;rw[if_neg hn,h];simp only;rw[if_neg hs]
theorem one_row{W:World}{g:Nat}{s:Value}{r:List Vl}{t:TypeId}(h:W.heap[g]?=some (.cells #[s] t (0,0)))(hr:ReadsVl (fun _=>True) W s r):ReadsRw (fun _=>True) W (.slice (some ⟨g,0,none⟩) 1 1) [r]:=by
 refine⟨_,_,rfl,fun j r' hj=>?_⟩;cases j with
 |zero=>
  obtain rfl:r=r':=(by simpa using hj);exact⟨g,0,s,rfl,trivial,(aC.1 h).1,by rw[aG h];rfl,hr⟩
 |succ j=>simp at hj
theorem busums_nil(x:Bd)(W:World)(v:Value)(ra:Option Addr)(rc m:Nat)(_hm:m<=1000000)(hv:ReadsD W x v)(h0:x.args=[]):Calls Tryz.prog 78 #[v,.slice ra m rc] W fun e w'=>e=resV ((2,(m:Int),[]),0)/\Bl W w':=by
 obtain⟨sl,rfl,hR⟩:=hv;obtain⟨a,cap,rfl,-⟩:=hR.shape;clear hR;obtain⟨k,t,⟨v1,v2,v3⟩,p,o,n,args⟩:=x;simp only[Bd.k,Bd.t,Bd.v,Bd.p,Bd.o,Bd.n,Bd.args] at *;have HX0:=aB (keep_b (aN W (.cells (cellsB k t v1 v2 v3 p o n (.slice a args.length cap)) 73)) ((Bl.refl _).alloc (.cells #[.int .i64 0,.int .i64 0,S []] 26)));have HR0:=aB (aV (W.alloc (.cells (cellsB k t v1 v2 v3 p o n (.slice a args.length cap)) 73)) (.cells #[.int .i64 0,.int .i64 0,S []] 26) (k:=W.heap.size+1) (by simp));have HB0:=aB (((Bl.refl W).alloc (.cells (cellsB k t v1 v2 v3 p o n (.slice a args.length cap)) 73)).alloc (.cells #[.int .i64 0,.int .i64 0,S []] 26));subst h0;rw[resV_yes];go_enter Tryz.func78,Tryz.ntmps78;go_wp2;exact bodyPost_ret (v:=V 2 (m:Int) []) (by simp[results,Tryz.results78,go_sem]) rfl ⟨rfl,((Bl.refl _).alloc _).alloc _⟩
theorem busums_some(x:Bd){y:Bd}{rest:List Bd}(ha:x.args=y::rest)(f:List Vl->Vl×Int)(rows:List (List Vl))(hlen:rows.length<=1000000)(W:World)(v:Value)(ra:Option Addr)(rc:Nat)(hv:ReadsD W x v)(hr:ReadsRw (fun _=>True) W (.slice ra rows.length rc) rows)
  (hI:(seqV (rows.map f)).2=0->(seqV (rows.map f)).1.length<=1000000/\∀y∈(seqV (rows.map f)).1,I64 y.2.1)
  (hf:∀r∈rows,∀(W':World) (v':Value) (g:Nat),Bl W W'->ReadsD W' y v'->ReadsRw (fun _=>True) W' (.slice (some ⟨g,0,none⟩) 1 1) [r]->Calls Tryz.prog 28 #[v',.slice (some ⟨g,0,none⟩) 1 1] W' fun e w'=>e=resV (f r)/\Bl W' w'):
  Calls Tryz.prog 78 #[v,.slice ra rows.length rc] W fun e w'=>e=resV (if(seqV (rows.map f)).2≠0 then(zVl,(seqV (rows.map f)).2) else summedV x.n (seqV (rows.map f)).1 rows.length x.args.length)/\Bl W w':=by
 obtain⟨sl,rfl,hR⟩:=hv;obtain⟨a,cap,rfl,hc⟩:=hR.shape;obtain⟨b9,off,s9,rfl,-,hb9,h9,hr9⟩:=hc 0 (by rw[ha];simp);have hy0:x.args[0]'(by rw[ha];simp)=y:=(by simp[ha]);rw[hy0] at h9 hr9;obtain⟨ya,yc,rfl,-⟩:=id hr9.shape;have hal:x.args.length=rest.length+1:=(by rw[ha];simp);rw[hal];have HRW:=aB hr;have H9:=aB h9;have HR9:=aB hr9;clear hc hR hy0 hr h9 hr9 ha;obtain⟨k,t,⟨v1,v2,v3⟩,p,o,n,args⟩:=x;simp only[Bd.k,Bd.t,Bd.v,Bd.p,Bd.o,Bd.n,Bd.args] at hal⊢;clear hal;generalize rest.length=m at *;have HX0:=aB (keep_b (aN W (.cells (cellsB k t v1 v2 v3 p o n (.slice (some ⟨b9,off,none⟩) (m+1) cap)) 73)) ((Bl.refl _).alloc (.cells #[.int .i64 0,.int .i64 0,S []] 26)));have HR0:=aB (aV (W.alloc (.cells (cellsB k t v1 v2 v3 p o n (.slice (some ⟨b9,off,none⟩) (m+1) cap)) 73)) (.cells #[.int .i64 0,.int .i64 0,S []] 26) (k:=W.heap.size+1) (by simp));have HB0:=aB (((Bl.refl W).alloc (.cells (cellsB k t v1 v2 v3 p o n (.slice (some ⟨b9,off,none⟩) (m+1) cap)) 73)).alloc (.cells #[.int .i64 0,.int .i64 0,S []] 26));have HS:Hid (∀W0,Bl W W0->∀bx,W0.heap[bx]?=some (.cells (cellsB k t v1 v2 v3 p o n (.slice (some ⟨b9,off,none⟩) (m+1) cap)) 73 (0,0))->Calls Tryz.prog 97 #[.slice ra rows.length rc,.func (.func 98) #[] #[.pointer (some ⟨bx,0,none⟩)]] W0 (OwnV W0.heap.size (seqV (rows.map f)) W0)):=by
  intro W0 hb0 bx hx;refine bsomeR_any hlen W0 (HRW.o.bl hb0) fun r hr W' s hb' hs=>?_;obtain⟨sa,sc,rfl,-⟩:=id hs;have hW:Bl W W':=hb0.call hb';refine busums1_any (keep_b hx hb') ya yc (H9.o.keep (hW.block b9 hb9)) (gK hb9 hW.size) fun W2 hb2 hh=>?_;exact hf r hr W2 _ _ (hW.call hb2) ⟨_,rfl,HR9.o.bl (hW.call hb2)⟩ (one_row hh (hs.bl hb2))
 generalize seqV (rows.map f)=vs at *;generalize rows.length=q at *;obtain⟨l,c⟩:=vs;simp only at hI⊢;obtain⟨Z,HZ⟩:∃Z,Hid ((if c≠0 then(zVl,c) else summedV n l q (m+1))=Z):=⟨_,rfl⟩
 rw[HZ.o];have hm1:((m:Int)+1==0)=false:=by
  rw[beq_eq_false_iff_ne];omega
 obtain⟨g0,g1,g2,g3,g4,g5,g6,g7,g8⟩:=nine HX0.o;clear H9 HR9 HRW hf;go_enter Tryz.func78,Tryz.ntmps78;go_wp2_with fail;refine(HS.o _ HB0.o W.heap.size HX0.o).mono ?_;rintro e w1 ⟨⟨hc0,v1',rfl,hown⟩|⟨hc0,rfl⟩,hb1⟩
 case inr=>
  have HV:=aB (show Z=(zVl,c) from by rw[<-HZ.o,if_pos hc0]);have HC:=aB (resV_bad (v:=zVl) hc0);have HB1:=aB (HB0.o.call hb1);clear hc0 HZ hb1 g0 g1 g2 g3 g4 g5 g6 g7 g8;go_wp2;exact⟨rfl,by rw[HV.o,HC.o],HB1.o⟩
 simp only at hc0 hown;subst hc0;obtain⟨hl6,hI6⟩:=hI rfl;clear hI;have HI6:=aB hI6;clear hI6;have HZ1:=aB (show summedV n l q (m+1)=Z from by rw[<-HZ.o];rfl);have HD:=aB (bDelete_any (pr:=fun y=>y.1==0) hl6 enters_busums2 hb1.size hown fun y W' _=>busums2_any y W');have hsz:W.heap.size+2=((W.alloc (.cells (cellsB k t v1 v2 v3 p o n (.slice (some ⟨b9,off,none⟩) (m+1) cap)) 73)).alloc (.cells #[.int .i64 0,.int .i64 0,S []] 26)).heap.size:=(by simp);have HX1:=aB (keep_b HX0.o hb1);have HR1:=aB (keep_b HR0.o hb1);have HB1:=aB (HB0.o.call hb1);rw[<-hsz] at HD;clear hsz hown HZ hb1 g0 g1 g2 g3 g4 g5 g6 g7 g8;go_wp2_with fail;refine HD.o.mono ?_;rintro e w2 ⟨⟨v2',rfl,hown⟩,hb2⟩;have HX2:=aB ((hb2.block W.heap.size (by omega)).trans HX1.o);have HR2:=aB ((hb2.block (W.heap.size+1) (by omega)).trans HR1.o);have HB2:=aB (show Bl W w2 from HB1.o.trans (hb2.mono (by omega)));have hrv:=own_vals hown;have hfl:(l.filter fun v=>v.1 != 0).length<=1000000:=jH (List.length_filter_le _ _) hl6;have hfi:∀y∈l.filter fun v=>v.1 != 0,I64 y.2.1:=fun y hy=>HI6.o y (List.mem_filter.1 hy).1;have hrv2:ReadsVl (fun b=>W.heap.size+2<=b) w2 v2' (l.filter fun v=>v.1 != 0):=hrv;obtain⟨L,hL⟩:∃L,(l.filter fun v=>v.1 != 0)=L:=⟨_,rfl⟩
 rw[hL] at hrv2 hfl hfi;obtain⟨la,lc,rfl,-⟩:=id hrv2;have HRV:=aB hrv2;have HFI:=aB hfi;have HL:=aB hL;clear hb2 hown hrv hrv2 hfi HI6 hL hl6 HX1 HR1 HB1 HB0 HX0 HR0 HS HD;obtain⟨f0,f1,f2,f3,f4,f5,f6,f7,f8⟩:=nine HX2.o;by_cases hn:n=gX
 ·subst hn;have HV:=aB (show Z=((2,(L.length:Int),[]),0) from by rw[<-HZ1.o,summed_count (by omega),HL.o]);clear HZ1;go_wp2_with (refine bA (g:=W.heap.size+1) (i:=0) rfl rfl rfl rfl (cells3 ((2,(L.length:Int),[]):Vl)) HR2.o rfl rfl vlInfo rfl ?_)
  intro w9 hB9 hX9;go_wp2;exact bodyPost_ret (v:=VlV ((2,(L.length:Int),[]):Vl)) (results_cell_row (p:=4) (ty:=26) rfl _ _ (W.heap.size+1) 26 _ (0,0) _ rfl hX9 Tryz.underlying26 rfl vlInfo) rfl ⟨by rw[HV.o];rfl,hB9.bl HB2.o (by omega)⟩
 ·have gn:(n==[99,111,117,110,116])=false:=by simpa[gX] using hn
  have HN:=aB hn;clear hn;by_cases hLL:L=[]
  ·subst hLL;have HV:=aB (show Z=(zVl,0) from by rw[<-HZ1.o,summed_nil HN.o HL.o]);clear HZ1;go_wp2_with (refine bA (g:=W.heap.size+1) (i:=0) rfl rfl rfl rfl (cells3 (zVl:Vl)) HR2.o rfl rfl vlInfo rfl ?_)
   intro w9 hB9 hX9;go_wp2;exact bodyPost_ret (v:=VlV (zVl:Vl)) (results_cell_row (p:=4) (ty:=26) rfl _ _ (W.heap.size+1) 26 _ (0,0) _ rfl hX9 Tryz.underlying26 rfl vlInfo) rfl ⟨by rw[HV.o];rfl,hB9.bl HB2.o (by omega)⟩
  ·obtain⟨va,vr,hLL⟩:=List.exists_cons_of_ne_nil hLL;have HLL:=aB hLL;have g0:((L.length:Int)==0)=false:=by
    rw[beq_eq_false_iff_ne,hLL,aX];omega
   clear hLL;by_cases hs:n=c1m
   ·subst hs;have HZ2:=aB (show(if L.any (fun v=>v.1 != 2)=true then(zVl,120) else totalV L)=Z from by rw[<-HZ1.o,summed_sum HL.o HLL.o]);have HCT:=aB (fun W' (hb:Bl w2 W')=>vContains_any (pr:=fun y=>y.1 != 2) hfl enters_busums3 (HRV.o.bl hb) fun y W' _=>busums3_any y W');have HTT:=aB (fun W' (hb:Bl w2 W')=>btotal_any hfl HFI.o (HRV.o.bl hb));generalize totalV L=tv at *;generalize L.any (fun y=>y.1 != 2)=an at *;generalize L.length=ll at *;clear HZ1;go_wp2_with fail;refine(HCT.o _ (Bl.refl _)).mono ?_;rintro e w3 ⟨rfl,hb3⟩;have HB3:=aB (HB2.o.call hb3);have HR3:=aB (keep_b HR2.o hb3);have HT3:=aB (HTT.o _ hb3);clear hb3 HCT HTT HB2 HR2;cases an
    ·have HV2:=aB (show tv=Z from by rw[<-HZ2.o];rfl);clear HZ2;go_wp2_with fail
     (with_reducible refine(bmust_yes _ _).mono ?_)
     rintro e w4 ⟨rfl,rfl⟩;obtain⟨tr,tc⟩:=tv;rcases resV_ways tr tc with⟨hc,h⟩|⟨hc,h⟩
     ·rw[h] at HT3;subst hc;have HV:=aB HV2.o.symm;clear h HV2;have HB2:=HB3;have HR2:=HR3;go_wp2_with fail;refine(HT3.o).mono ?_;rintro e w3 ⟨rfl,hb3⟩;have HB3:=aB (HB2.o.call hb3);have HR3:=aB (keep_b HR2.o hb3);clear HB2 HR2;have HB2:=HB3;have HR2:=HR3;go_wp2_with (refine bA (g:=W.heap.size+1) (i:=0) rfl rfl rfl rfl (cells3 tr) HR2.o rfl rfl vlInfo rfl ?_)
      intro w9 hB9 hX9;go_wp2;exact bodyPost_ret (v:=VlV tr) (results_cell_row (p:=4) (ty:=26) rfl _ _ (W.heap.size+1) 26 _ (0,0) _ rfl hX9 Tryz.underlying26 rfl vlInfo) rfl ⟨by rw[HV.o];rfl,hB9.bl HB2.o (by omega)⟩
     ·have HV:=aB (show panE tc=resV Z from by rw[<-HV2.o,h]);rw[h] at HT3;clear h hc HV2;go_wp2_with fail;refine HT3.o.mono ?_;rintro e w5 ⟨rfl,hb5⟩;go_wp2;exact⟨rfl,HV.o,HB3.o.call hb5⟩
    ·have HV2:=aB (show(zVl,120)=Z from by rw[<-HZ2.o];rfl);clear HZ2;go_wp2_with fail
     (with_reducible refine(bmust_no _ _).mono ?_)
     rintro e w4 ⟨rfl,rfl⟩;go_wp2;exact⟨rfl,by rw[<-HV2.o];rfl,HB3.o⟩
   ·have gs:(n==[115,117,109])=false:=by simpa[c1m] using hs
    have HZ2:=aB (show Z=(vr.foldl (bestV (n==c1n)) va,0) from by rw[<-HZ1.o];exact summed_best HN.o hs (HL.o.trans HLL.o));clear hs HZ1;by_cases hmn:n=c1n
    ·subst hmn;have HV:Hid (Z=(vr.foldl (bestV true) va,0)):=HZ2;have HMN:=aB (fun W' (hb:Bl w2 W')=>vMinFunc_any HLL.o hfl (HRV.o.bl hb));clear HZ2;generalize vr.foldl (bestV true) va=bv at *;generalize L.length=ll at *;go_wp2_with fail;refine(HMN.o _ (Bl.refl _)).mono ?_;rintro e w3 ⟨rfl,hb3⟩;have HB3:=aB (HB2.o.call hb3);have HR3:=aB (keep_b HR2.o hb3);clear HB2 HR2;have HB2:=HB3;have HR2:=HR3;go_wp2_with (refine bA (g:=W.heap.size+1) (i:=0) rfl rfl rfl rfl (cells3 bv) HR2.o rfl rfl vlInfo rfl ?_)
     intro w9 hB9 hX9;go_wp2;exact bodyPost_ret (v:=VlV bv) (results_cell_row (p:=4) (ty:=26) rfl _ _ (W.heap.size+1) 26 _ (0,0) _ rfl hX9 Tryz.underlying26 rfl vlInfo) rfl ⟨by rw[HV.o];rfl,hB9.bl HB2.o (by omega)⟩
    ·have gm:(n==[109,105,110])=false:=by simpa[c1n] using hmn
     have HV:=aB (show Z=(vr.foldl (bestV false) va,0) from by rw[HZ2.o,beq_eq_false_iff_ne.2 hmn]);have HMN:=aB (fun W' (hb:Bl w2 W')=>vMaxFunc_any HLL.o hfl (HRV.o.bl hb));clear HZ2 hmn;generalize vr.foldl (bestV false) va=bv at *;generalize L.length=ll at *;go_wp2_with fail;refine(HMN.o _ (Bl.refl _)).mono ?_;rintro e w3 ⟨rfl,hb3⟩;have HB3:=aB (HB2.o.call hb3);have HR3:=aB (keep_b HR2.o hb3);clear HB2 HR2;have HB2:=HB3;have HR2:=HR3;go_wp2_with (refine bA (g:=W.heap.size+1) (i:=0) rfl rfl rfl rfl (cells3 bv) HR2.o rfl rfl vlInfo rfl ?_)
     intro w9 hB9 hX9;go_wp2;exact bodyPost_ret (v:=VlV bv) (results_cell_row (p:=4) (ty:=26) rfl _ _ (W.heap.size+1) 26 _ (0,0) _ rfl hX9 Tryz.underlying26 rfl vlInfo) rfl ⟨by rw[HV.o];rfl,hB9.bl HB2.o (by omega)⟩
end
section
mutual
def intsD:Bd->Prop
 | .mk _ _ v _ _ _ l=>I64 v.2.1/\intssD l
def intssD:List Bd->Prop
 |[]=>True
 |x::r=>intsD x/\intssD r
end
def IntV(v:Vl):Prop:=I64 v.2.1
theorem int_z{a:Int}{s:List UInt8}:IntV (a,0,s):=by unfold IntV I64;simp
theorem int_zV:IntV zVl:=int_z
theorem int_len{n:Nat}(h:n<=1000000000){a:Int}{s:List UInt8}:IntV (a,(n:Int),s):=by unfold IntV I64;simp only;omega
theorem int_numV(n:Int):IntV (numV n).1:=by
 unfold numV;split
 ·rename_i h;unfold fits64 at h;simp only[aQ,decide_eq_true_eq] at h;exact h
 ·exact int_z
theorem int_tVl(b:Bool):IntV (tVl b):=by cases b<;>(unfold IntV I64 tVl;simp)
theorem int_kVl(t:Int):IntV (kVl t):=by
 unfold kVl;split
 ·exact int_z
 ·split
  ·unfold IntV I64;simp
  ·exact int_z
theorem int_wholeO{o a b:Int}(ha:I64 a):IntV (wholeO o a b).1:=by
 unfold wholeO
 repeat' split
 all_goals first
  |exact int_numV _
  |exact int_z
  |exact ha
theorem int_head{l:List Vl}(h:∀v∈l,IntV v):IntV (l.headD zVl):=by
 cases l with
 |nil=>exact int_zV
 |cons a r=>exact h a (by simp)
theorem int_doO{o:Int}{l:List Vl}(h:∀v∈l,IntV v)(hl:∀v∈l,okVl v=true->v.2.2.length<=1000000000):IntV (doO o l).1:=by
 unfold doO;split
 ·exact int_zV
 ·rename_i hok;split
  ·exact int_zV
  ·simp only
   repeat' split
   all_goals first
    |exact int_kVl _
    |exact int_tVl _
    |exact int_zV
    |exact int_z
    |exact int_wholeO (int_head h)
    |skip
   ·refine int_len ?_;cases l with
    |nil=>simp[zVl]
    |cons a r=>exact hl a (by simp) (jA.1 (eq_true_of_ne_false hok) a (by simp))
theorem ok_len{v:Vl}(h:okVl v=true):v.2.2.length<=1000:=by
 rw[okVl_iff] at h;unfold chk at h;split at h
 ·cases h
 ·omega
theorem int_doO'{o:Int}{l:List Vl}(h:∀v∈l,IntV v):IntV (doO o l).1:=int_doO h fun v _ hv=>by have:=ok_len hv;omega
theorem int_best(m:Bool):∀(l:List Vl) (a:Vl),(∀v∈a::l,IntV v)->IntV (l.foldl (bestV m) a):=fun l a h=>h _ (best_mem m l a)
theorem int_total(l:List Vl):IntV (totalV l).1:=by
 unfold totalV;simp only;split
 ·rename_i h;unfold fits64 at h;simp only[aQ,decide_eq_true_eq] at h;exact h
 ·exact int_zV
theorem int_summed{n:List UInt8}{l:List Vl}{rows args:Nat}(hl:∀x∈l,IntV x)(h1:l.length<=1000000)(h2:rows<=1000000):IntV (summedV n l rows args).1:=by
 unfold summedV;simp only;split
 ·simp only;split
  ·exact int_len (by omega)
  ·exact int_len (by have:=List.length_filter_le (fun v:Vl=>v.1 != 0) l;omega)
 ·split
  ·exact int_zV
  ·rename_i a r he;have hs:∀x∈a::r,IntV x:=fun x hx=>hl x (List.mem_filter.1 (show x∈l.filter fun v=>v.1 != 0 by rw[he];exact hx)).1;split
   ·split
    ·exact int_zV
    ·exact int_total _
   ·exact int_best _ r a hs
theorem int_first:∀l:List Vl,(∀x∈l,IntV x)->IntV (firstV l)
 |[],_=>int_zV
 |v::r,h=>by
  unfold firstV;split
  ·exact h v (by simp)
  ·exact int_first r fun x hx=>h x (List.mem_cons_of_mem _ hx)
theorem int_seq:∀{l:List (Vl×Int)},(∀y∈l,IntV y.1)->∀v∈(seqV l).1,IntV v
 |[],_,v,hv=>by simp[seqV] at hv
 |y::r,h,v,hv=>by
  unfold seqV at hv;split at hv
  ·simp at hv
  ·split at hv
   ·simp at hv
   ·rcases dD.1 hv with rfl|hv
    ·exact h y (by simp)
    ·exact int_seq (fun z hz=>h z (List.mem_cons_of_mem _ hz)) v hv
theorem seq_len:∀l:List (Vl×Int),(seqV l).1.length<=l.length
 |[]=>by simp[seqV]
 |y::r=>by
  have ih:=seq_len r;unfold seqV;split
  ·simp
  ·split
   ·simp
   ·simp only[aX];omega
theorem int_getD{r:List Vl}(h:∀v∈r,IntV v)(i:Nat):IntV (r.getD i zVl):=by
 rw[lY];cases hi:r[i]? with
 |none=>exact int_zV
 |some v=>exact h v (dJ hi)
mutual
theorem int_work:∀(b:Bd) (rows:List (List Vl)),rows.length<=1000000->(∀r∈rows,∀v∈r,IntV v)->intsD b->IntV (workD rows b).1
 | .mk k t v p o n l,rows,hm,hr,h=>by
  simp only[intsD] at h;have ih1:=int_works l rows hm hr h.2;have ih2:=int_over l rows hm hr h.2;rw[workD.eq_def];simp only;split
  ·exact h.1
  ·split
   ·cases rows with
    |nil=>exact int_zV
    |cons r s=>exact int_getD (hr r (by simp)) _
   ·split
    ·split
     ·exact int_zV
     ·exact int_summed ih2.1 ih2.2 hm
    ·split
     ·exact int_zV
     ·split
      ·exact int_doO' ih1
      ·exact int_first _ ih1
theorem int_works:∀(l:List Bd) (rows:List (List Vl)),rows.length<=1000000->(∀r∈rows,∀v∈r,IntV v)->intssD l->∀x∈(worksD rows l).1,IntV x
 |[],rows,_,_,_=>by simp[worksD]
 |b::l,rows,hm,hr,h=>by
  simp only[intssD] at h;have ih1:=int_work b rows hm hr h.1;have ih2:=int_works l rows hm hr h.2;rw[worksD.eq_def];simp only;split
  ·simp
  ·split
   ·simp
   ·intro x hx;rcases dD.1 hx with rfl|hx
    ·exact ih1
    ·exact ih2 x hx
theorem int_over:∀(l:List Bd) (rows:List (List Vl)),rows.length<=1000000->(∀r∈rows,∀v∈r,IntV v)->intssD l->(∀x∈(overD rows l).1,IntV x)/\(overD rows l).1.length<=1000000
 |[],rows,_,_,_=>by simp[overD]
 |b::l,rows,hm,hr,h=>by
  simp only[intssD] at h;have ih1:=fun r hr'=>int_work b [r] (by simp) (fun q hq=>by rw[gQ.1 hq];exact hr r hr') h.1;rw[over_seq];refine⟨int_seq fun y hy=>?_,?_⟩
  ·obtain⟨r,hm,rfl⟩:=List.mem_map.1 hy;exact ih1 r hm
  ·have:=seq_len (rows.map fun r=>workD [r] b);rw[mD] at this;omega
end
theorem ints_mem:∀{l:List Bd} {x:Bd},intssD l->x∈l->intsD x
 |y::r,x,h,hx=>by
  simp only[intssD] at h;rcases dD.1 hx with rfl|hx
  ·exact h.1
  ·exact ints_mem h.2 hx
theorem rights_mem{c:Int}:∀{l:List Bd} {x:Bd},rightsD c l=true->x∈l->rightD c x=true
 |y::r,x,h,hx=>by
  simp only[rightsD,aQ] at h;rcases dD.1 hx with rfl|hx
  ·exact h.1
  ·exact rights_mem h.2 hx
end
section
theorem buwork_of(x:Bd)(R:Vl×Int)(g h:FuncId)(hlk:∀(w:World) (r:Nat),w.heap[r]?=some (.map kindAll 5)->(Instr.lookup 96 (.map (some r)) (.int .i64 x.k) false).run Tryz.prog w= .ok (kinV g h) w)
  (hen:∀(args:Array Value) (w:World),(callFunc h args).run Tryz.prog w= .ok (.enter h args) w) (W:World) (v sv:Value) (hsv:∃a n c,sv= .slice a n c) (hv:ReadsD W x v)
  (hc:∀(W':World) (v':Value),Bl W W'->ReadsD W' x v'->Calls Tryz.prog h #[v',sv] W' fun e w'=>e=resV R/\Bl W' w'):
  Calls Tryz.prog 28 #[v,sv] W fun e w'=>e=resV R/\Bl W w':=by
 obtain⟨ra,rn,rc,rfl⟩:=hsv;obtain⟨s,rfl,hvl⟩:=hv;have HC:Hid (∀W',Bl W W'->Calls Tryz.prog h #[BdV x.k x.t x.v x.p x.o x.n s,.slice ra rn rc] W' fun e w'=>e=resV R/\Bl W' w'):=fun W' hb=>hc W' _ hb ⟨s,rfl,hvl.bl hb⟩;have HLK:=aB hlk;have hfl:∀w,Sem.run Tryz.prog (Instr.field 95 (kinV g h) 1) w= .ok (.func (.func h) #[] #[]) w:=fun _=>rfl;obtain⟨Z,HZ⟩:∃Z,Hid (resV R=Z):=⟨_,rfl⟩
 rw[HZ.o];clear hc hlk;obtain⟨a,cap,rfl,-⟩:=hvl.shape;clear hvl;obtain⟨k,t,⟨v1,v2,v3⟩,p,o,n,args⟩:=x;simp only[Bd.k,Bd.t,Bd.v,Bd.p,Bd.o,Bd.n,Bd.args] at *;generalize args.length=m at *;obtain⟨rv,c⟩:=R;have HX0:=aB (keep_b (aN W (.cells (cellsB k t v1 v2 v3 p o n (.slice a m cap)) 73)) ((Bl.refl _).alloc (.cells #[.int .i64 0,.int .i64 0,S []] 26)));have HR0:=aB (aV (W.alloc (.cells (cellsB k t v1 v2 v3 p o n (.slice a m cap)) 73)) (.cells #[.int .i64 0,.int .i64 0,S []] 26) (k:=W.heap.size+1) (by simp));have HB0:=aB (((Bl.refl W).alloc (.cells (cellsB k t v1 v2 v3 p o n (.slice a m cap)) 73)).alloc (.cells #[.int .i64 0,.int .i64 0,S []] 26));go_enter Tryz.func28,Tryz.ntmps28;go_wp2_with fail;refine(bM (fun B=>B.cell? ⟨W.heap.size,0,none⟩=some (.int .i64 k)) ((.take 1 (.take 2 (.take 3 (.take 7 (.two 0 6 (.two 4 6 (.take 5 (.one 6 (.one 8 (.one 9 .done)))) (.one 4 (.take 5 (.one 8 (.one 9 .done))))) (.one 0 (.one 4 (.take 5 (.one 8 (.one 9 .done))))))))))) (by kernel_rfl) (by kernel_rfl) (by kernel_rfl) (fun c a d v w h=>by cases d<;>exact h) ((Bl.cell ((Bl.refl _).drew) (nine HX0.o).1)) ?_);intro wd HWD hY;iterate 4 (refine aI rfl (by rfl) (by intro w hSw;(try dsimp only at hSw);have c0:=hSw;go_simp;(try(first |with_reducible rfl|rfl))) ?_;(try simp only[aK,aA,aD,aF]))
 refine sZ ?_ ?_
 focus
  refine aL rfl (fun K hK=>?_);go_simp;((with_reducible refine(bkinds_any _).mono ?_);rintro e w3 ⟨rfl,rfl⟩);go_wp2_with fail;refine hK.o _ _ ((by first |exact Bl.cell hb6 hY|exact Bl.cell ((Bl.refl _).alloc _) hY|exact hY|(rw[aG ((hB7.same _ (by omega)).trans HX6.o)];rfl))) ?_;clear hY hK K;intro hY;refine sZ ?_ ?_
  focus
   have hlook:=HLK.o (wd.alloc (.map kindAll 5)) wd.heap.size (aN wd _);refine aL rfl (fun K hK=>?_);go_simp;refine hK.o _ _ (hY) ?_;clear hY hK K;intro hY;refine aI rfl (by rfl) (by intro w hSw;(try dsimp only at hSw);have c0:=hSw;go_simp;(try(first |with_reducible rfl|rfl))) ?_;(try simp only[aK,aA,aD,aF])
   obtain⟨e0,e1,e2,e3,e4,e5,e6,e7,e8⟩:=nine (keep_b HX0.o HWD.o);obtain⟨f0,f1,f2,f3,f4,f5,f6,f7,f8⟩:=nine (keep_b HX0.o (HWD.o.alloc (.map kindAll 5)));refine aL rfl (fun K hK=>?_);go_simp;refine hK.o _ _ (hY) ?_;clear hY hK K;intro hY;refine aL rfl (fun K hK=>?_);go_simp;(refine(HC.o _ ((HB0.o.call HWD.o).alloc _)).mono ?_;rintro e w6 ⟨he,hb6⟩;have HX6:=aB (keep_b HX0.o ((HWD.o.alloc (.map kindAll 5)).call hb6));have HR6:=aB (keep_b HR0.o ((HWD.o.alloc (.map kindAll 5)).call hb6));have HB6:=aB (((HB0.o.call HWD.o).alloc (.map kindAll 5)).call hb6);rcases resV_ways rv c with⟨hc,hh⟩|⟨hc,hh⟩<;>(rw[hh] at he;subst he;have HCC:=aB hh;clear hh hc);rotate_left;(· go_wp2;exact⟨rfl,by rw[<-HZ.o,HCC.o],HB6.o⟩));go_wp2_with fail;refine hK.o _ _ ((by first |exact Bl.cell hb6 hY|exact Bl.cell ((Bl.refl _).alloc _) hY|exact hY|(rw[aG ((hB7.same _ (by omega)).trans HX6.o)];rfl))) ?_;clear hY hK K;intro hY;refine aL rfl (fun K hK=>?_);rw[if_pos (by rfl)];refine bC rfl rfl rfl (cells3 rv) HR6.o rfl rfl vlInfo rfl ?_;intro w7 hB7 hX7;refine hK.o _ _ ((by first |exact Bl.cell hB76 hY|exact Bl.cell ((Bl.refl _).alloc _) hY|exact hY|(rw[aG ((hB7.same _ (by omega)).trans HX6.o)];rfl))) ?_;clear hY hK K;intro hY;(try simp only[aK])
   refine fO ?_;go_wp2;exact bodyPost_ret (v:=VlV rv) (results_cell_row (p:=4) (ty:=26) rfl _ _ (W.heap.size+1) 26 _ (0,0) _ rfl hX7 Tryz.underlying26 rfl vlInfo) rfl ⟨by rw[<-HZ.o,HCC.o],hB7.bl HB6.o (by omega)⟩
  rotate_left 1
  focus
   obtain⟨e0,e1,e2,e3,e4,e5,e6,e7,e8⟩:=nine (keep_b HX0.o HWD.o);obtain⟨f0,f1,f2,f3,f4,f5,f6,f7,f8⟩:=nine (keep_b HX0.o (HWD.o.alloc (.map kindAll 5)));refine aL rfl (fun K hK=>?_);go_simp;refine hK.o _ _ (hY) ?_;clear hY hK K;intro hY;have hlook:=HLK.o (wd.alloc (.map kindAll 5)) wd.heap.size (aN wd _);refine aL rfl (fun K hK=>?_);go_simp;refine hK.o _ _ (hY) ?_;clear hY hK K;intro hY;refine aI rfl (by rfl) (by intro w hSw;(try dsimp only at hSw);have c0:=hSw;go_simp;(try(first |with_reducible rfl|rfl))) ?_;(try simp only[aK,aA,aD,aF])
   refine aL rfl (fun K hK=>?_);go_simp;(refine(HC.o _ ((HB0.o.call HWD.o).alloc _)).mono ?_;rintro e w6 ⟨he,hb6⟩;have HX6:=aB (keep_b HX0.o ((HWD.o.alloc (.map kindAll 5)).call hb6));have HR6:=aB (keep_b HR0.o ((HWD.o.alloc (.map kindAll 5)).call hb6));have HB6:=aB (((HB0.o.call HWD.o).alloc (.map kindAll 5)).call hb6);rcases resV_ways rv c with⟨hc,hh⟩|⟨hc,hh⟩<;>(rw[hh] at he;subst he;have HCC:=aB hh;clear hh hc);rotate_left;(· go_wp2;exact⟨rfl,by rw[<-HZ.o,HCC.o],HB6.o⟩));go_wp2_with fail;refine hK.o _ _ ((by first |exact Bl.cell hb6 hY|exact Bl.cell ((Bl.refl _).alloc _) hY|exact hY|(rw[aG ((hB7.same _ (by omega)).trans HX6.o)];rfl))) ?_;clear hY hK K;intro hY;refine aL rfl (fun K hK=>?_);rw[if_pos (by rfl)];refine bC rfl rfl rfl (cells3 rv) HR6.o rfl rfl vlInfo rfl ?_;intro w7 hB7 hX7;refine hK.o _ _ ((by first |exact Bl.cell hB76 hY|exact Bl.cell ((Bl.refl _).alloc _) hY|exact hY|(rw[aG ((hB7.same _ (by omega)).trans HX6.o)];rfl))) ?_;clear hY hK K;intro hY;(try simp only[aK])
   refine fO ?_;go_wp2;exact bodyPost_ret (v:=VlV rv) (results_cell_row (p:=4) (ty:=26) rfl _ _ (W.heap.size+1) 26 _ (0,0) _ rfl hX7 Tryz.underlying26 rfl vlInfo) rfl ⟨by rw[<-HZ.o,HCC.o],hB7.bl HB6.o (by omega)⟩
 rotate_left 2
 focus
  obtain⟨e0,e1,e2,e3,e4,e5,e6,e7,e8⟩:=nine (keep_b HX0.o HWD.o);obtain⟨f0,f1,f2,f3,f4,f5,f6,f7,f8⟩:=nine (keep_b HX0.o (HWD.o.alloc (.map kindAll 5)));refine aL rfl (fun K hK=>?_);go_simp;refine hK.o _ _ (hY) ?_;clear hY hK K;intro hY;refine aL rfl (fun K hK=>?_);go_simp;((with_reducible refine(bkinds_any _).mono ?_);rintro e w3 ⟨rfl,rfl⟩);go_wp2_with fail;refine hK.o _ _ ((by first |exact Bl.cell hb6 hY|exact Bl.cell ((Bl.refl _).alloc _) hY|exact hY|(rw[aG ((hB7.same _ (by omega)).trans HX6.o)];rfl))) ?_;clear hY hK K;intro hY;have hlook:=HLK.o (wd.alloc (.map kindAll 5)) wd.heap.size (aN wd _);refine aL rfl (fun K hK=>?_);go_simp;refine hK.o _ _ (hY) ?_;clear hY hK K;intro hY;refine aI rfl (by rfl) (by intro w hSw;(try dsimp only at hSw);have c0:=hSw;go_simp;(try(first |with_reducible rfl|rfl))) ?_;(try simp only[aK,aA,aD,aF])
  refine aL rfl (fun K hK=>?_);go_simp;(refine(HC.o _ ((HB0.o.call HWD.o).alloc _)).mono ?_;rintro e w6 ⟨he,hb6⟩;have HX6:=aB (keep_b HX0.o ((HWD.o.alloc (.map kindAll 5)).call hb6));have HR6:=aB (keep_b HR0.o ((HWD.o.alloc (.map kindAll 5)).call hb6));have HB6:=aB (((HB0.o.call HWD.o).alloc (.map kindAll 5)).call hb6);rcases resV_ways rv c with⟨hc,hh⟩|⟨hc,hh⟩<;>(rw[hh] at he;subst he;have HCC:=aB hh;clear hh hc);rotate_left;(· go_wp2;exact⟨rfl,by rw[<-HZ.o,HCC.o],HB6.o⟩));go_wp2_with fail;refine hK.o _ _ ((by first |exact Bl.cell hb6 hY|exact Bl.cell ((Bl.refl _).alloc _) hY|exact hY|(rw[aG ((hB7.same _ (by omega)).trans HX6.o)];rfl))) ?_;clear hY hK K;intro hY;refine aL rfl (fun K hK=>?_);rw[if_pos (by rfl)];refine bC rfl rfl rfl (cells3 rv) HR6.o rfl rfl vlInfo rfl ?_;intro w7 hB7 hX7;refine hK.o _ _ ((by first |exact Bl.cell hB76 hY|exact Bl.cell ((Bl.refl _).alloc _) hY|exact hY|(rw[aG ((hB7.same _ (by omega)).trans HX6.o)];rfl))) ?_;clear hY hK K;intro hY;(try simp only[aK])
  refine fO ?_;go_wp2;exact bodyPost_ret (v:=VlV rv) (results_cell_row (p:=4) (ty:=26) rfl _ _ (W.heap.size+1) 26 _ (0,0) _ rfl hX7 Tryz.underlying26 rfl vlInfo) rfl ⟨by rw[<-HZ.o,HCC.o],hB7.bl HB6.o (by omega)⟩
end
section
theorem enters_bkinds1(args:Array Value)(w:World):(callFunc 70 args).run Tryz.prog w= .ok (.enter 70 args) w:=by simp[go_sem]
theorem enters_bufield(args:Array Value)(w:World):(callFunc 72 args).run Tryz.prog w= .ok (.enter 72 args) w:=by simp[go_sem]
theorem enters_budoes(args:Array Value)(w:World):(callFunc 74 args).run Tryz.prog w= .ok (.enter 74 args) w:=by simp[go_sem]
theorem enters_bufirst(args:Array Value)(w:World):(callFunc 76 args).run Tryz.prog w= .ok (.enter 76 args) w:=by simp[go_sem]
theorem enters_busums(args:Array Value)(w:World):(callFunc 78 args).run Tryz.prog w= .ok (.enter 78 args) w:=by simp[go_sem]
theorem look_1{x:Bd}(h:x.k=1)(w:World)(r:Nat)(hb:w.heap[r]?=some (.map kindAll 5)):(Instr.lookup 96 (.map (some r)) (.int .i64 x.k) false).run Tryz.prog w= .ok (kinV 69 70) w:=by rw[h];exact kind_at1 hb
theorem look_2{x:Bd}(h:x.k=2)(w:World)(r:Nat)(hb:w.heap[r]?=some (.map kindAll 5)):(Instr.lookup 96 (.map (some r)) (.int .i64 x.k) false).run Tryz.prog w= .ok (kinV 71 72) w:=by rw[h];exact kind_at2 hb
theorem look_3{x:Bd}(h:x.k=3)(w:World)(r:Nat)(hb:w.heap[r]?=some (.map kindAll 5)):(Instr.lookup 96 (.map (some r)) (.int .i64 x.k) false).run Tryz.prog w= .ok (kinV 73 74) w:=by rw[h];exact kind_at3 hb
theorem look_4{x:Bd}(h:x.k=4)(w:World)(r:Nat)(hb:w.heap[r]?=some (.map kindAll 5)):(Instr.lookup 96 (.map (some r)) (.int .i64 x.k) false).run Tryz.prog w= .ok (kinV 75 76) w:=by rw[h];exact kind_at4 hb
theorem look_5{x:Bd}(h:x.k=5)(w:World)(r:Nat)(hb:w.heap[r]?=some (.map kindAll 5)):(Instr.lookup 96 (.map (some r)) (.int .i64 x.k) false).run Tryz.prog w= .ok (kinV 77 78) w:=by rw[h];exact kind_at5 hb
theorem parts_of:∀{l:List Bd} {x:Bd},x∈l->partsD x<=partssD l
 |y::r,x,hx=>by
  simp only[partssD];rcases dD.1 hx with rfl|hx
  ·omega
  ·have:=parts_of hx;omega
theorem parts_count:∀l:List Bd,l.length<=partssD l
 |[]=>by simp
 | .mk k t v p o n a::r=>by
  have:=parts_count r;simp only[partssD,partsD,aX];omega
theorem work_1{rows:List (List Vl)}{t:Int}{v:Vl}{p o:Int}{n:List UInt8}{l:List Bd}:workD rows (.mk 1 t v p o n l)=(v,0):=by rw[workD.eq_def];rfl
theorem work_2{rows:List (List Vl)}{t:Int}{v:Vl}{p o:Int}{n:List UInt8}{l:List Bd}:workD rows (.mk 2 t v p o n l)=(match rows with |[]=>(zVl,0)|r::_=>(r.getD p.toNat zVl,0)):=by rw[workD.eq_def];rfl
theorem work_3{rows:List (List Vl)}{t:Int}{v:Vl}{p o:Int}{n:List UInt8}{l:List Bd}:workD rows (.mk 3 t v p o n l)=if(seqV (l.map (workD rows))).2≠0 then(zVl,(seqV (l.map (workD rows))).2) else doO o (seqV (l.map (workD rows))).1:=by rw[workD.eq_def,<-works_seq];rfl
theorem work_4{rows:List (List Vl)}{t:Int}{v:Vl}{p o:Int}{n:List UInt8}{l:List Bd}:workD rows (.mk 4 t v p o n l)=if(seqV (l.map (workD rows))).2≠0 then(zVl,(seqV (l.map (workD rows))).2) else(firstV (seqV (l.map (workD rows))).1,0):=by rw[workD.eq_def,<-works_seq];rfl
theorem work_5n{rows:List (List Vl)}{t:Int}{v:Vl}{p o:Int}:workD rows (.mk 5 t v p o gX [])=((2,(rows.length:Int),[]),0):=by rw[workD.eq_def];rfl
theorem work_5{rows:List (List Vl)}{t:Int}{v:Vl}{p o:Int}{n:List UInt8}{y:Bd}{l:List Bd}:workD rows (.mk 5 t v p o n (y::l))=if(seqV (rows.map fun r=>workD [r] y)).2≠0 then(zVl,(seqV (rows.map fun r=>workD [r] y)).2) else summedV n (seqV (rows.map fun r=>workD [r] y)).1 rows.length (y::l).length:=by rw[workD.eq_def,<-over_seq rows y l];rfl
theorem right_kinds{c k t:Int}{v:Vl}{p o:Int}{n:List UInt8}{l:List Bd}(h:rightD1 c (.mk k t v p o n l)=true):k=1\/(k=2/\0<=p/\p<c)\/k=3\/k=4\/(k=5/\(l=[]->n=gX)):=by
 unfold rightD1 at h;by_cases h1:k=1
 ·exact .inl h1
 by_cases h2:k=2
 ·refine .inr (.inl ⟨h2,?_⟩);subst h2;simp at h;omega
 by_cases h3:k=3
 ·exact .inr (.inr (.inl h3))
 by_cases h4:k=4
 ·exact .inr (.inr (.inr (.inl h4)))
 by_cases h5:k=5
 ·refine .inr (.inr (.inr (.inr ⟨h5,fun hl=>?_⟩)));subst h5;subst hl;simp at h;exact h.2
 ·simp[h1,h2,h3,h4,h5] at h
theorem buwork_any(c:Int):∀(N:Nat),N<=1000000->∀(x:Bd),partsD x<=N->rightD c x=true->intsD x->∀(rows:List (List Vl)),rows.length<=1000000->(∀r∈rows,(r.length:Int)=c)->(∀r∈rows,∀v∈r,IntV v)->
  ∀(W:World) (v:Value) (ra:Option Addr) (rc:Nat),ReadsD W x v->ReadsRw (fun _=>True) W (.slice ra rows.length rc) rows->Calls Tryz.prog 28 #[v,.slice ra rows.length rc] W fun e w'=>e=resV (workD rows x)/\Bl W w':=by
 intro N
 induction N with
 |zero=>
  intro _ x hp;cases x with
  |mk k t v p o n l=>
   simp only[partsD] at hp;omega
 |succ N ih=>
  intro hN x hp hr hi rows hm hlen hint W v ra rc hv hrw;have hsv:∃a n c,Value.slice ra rows.length rc= .slice a n c:=⟨_,_,_,rfl⟩
  cases x with
  |mk k t v0 p o n l=>
  obtain⟨h1,h2,-⟩:=right_val hr;simp only[partsD] at hp;simp only[intsD] at hi;have hpc:=parts_count l;have hfew:l.length<=1000000:=(by omega);have IH:=fun(y:Bd) (hy:y∈l)=>ih (by omega) y (by have:=parts_of hy;omega) (rights_mem h2 hy) (ints_mem hi.2 hy);have hall:∀W',Bl W W'->∀v',ReadsD W' (.mk k t v0 p o n l) v'->Calls Tryz.prog 96 #[v',.slice ra rows.length rc] W' (ManyV W'.heap.size (seqV (l.map (workD rows))) W'):=fun W' hb v' hv'=>
   buvalues_any (.mk k t v0 p o n l) (workD rows) hfew W' v' _ hv' hsv fun y hy W2 v2 hb2 hv2=>IH y hy rows hm hlen hint W2 v2 ra rc hv2 (hrw.bl (hb.call hb2))
  have hsl:=seq_len (l.map (workD rows));rw[mD] at hsl;have hsi:∀y∈(seqV (l.map (workD rows))).1,I64 y.2.1:=int_seq fun y hy=>by
   obtain⟨b,hb,rfl⟩:=List.mem_map.1 hy;exact int_work b rows hm hint (ints_mem hi.2 hb)
  rcases right_kinds h1 with rfl|⟨rfl,hp0,hp1⟩|rfl|rfl|⟨rfl,h5⟩
  ·rw[work_1];exact buwork_of _ _ 69 70 (look_1 rfl) enters_bkinds1 W v _ hsv hv fun W' v' _ hv'=>bkinds1_any _ W' v' _ hv'
  ·rw[work_2];refine buwork_of _ _ 71 72 (look_2 rfl) enters_bufield W v _ hsv hv fun W' v' hb hv'=>?_;cases rows with
   |nil=>exact bufield_nil _ W' v' ra rc hv'
   |cons row rest=>
    have hl:=hlen row (by simp);obtain⟨i,rfl⟩:∃i:Nat,p=(i:Int):=⟨p.toNat,by omega⟩
    have hi2:i<row.length:=(by omega);have e:row.getD ((i:Int)).toNat zVl=row[i]:=(by simp[lY,hi2]);show Calls _ _ _ _ fun e w'=>e=resV (row.getD ((i:Int)).toNat zVl,0)/\_;rw[e];exact bufield_at _ W' v' ra rc rest.length row (row::rest) rfl hv' (hrw.bl hb) rfl i hi2 rfl
  ·rw[work_3];exact buwork_of _ _ 73 74 (look_3 rfl) enters_budoes W v _ hsv hv fun W' v' hb hv'=>budoes_any _ _ W' v' _ hv' hsv (fun _=>by omega) (fun _=>hsi) fun W2 hb2=>hall W2 (hb.call hb2) v' (hv'.bl hb2)
  ·rw[work_4];exact buwork_of _ _ 75 76 (look_4 rfl) enters_bufirst W v _ hsv hv fun W' v' hb hv'=>bufirst_any _ _ W' v' _ hv' hsv (fun _=>by omega) fun W2 hb2=>hall W2 (hb.call hb2) v' (hv'.bl hb2)
  ·cases l with
   |nil=>
    obtain rfl:=h5 rfl;rw[work_5n];exact buwork_of _ _ 77 78 (look_5 rfl) enters_busums W v _ hsv hv fun W' v' _ hv'=>busums_nil _ W' v' ra rc rows.length hm hv' rfl
   |cons y rest=>
    rw[work_5];have hrl:=seq_len (rows.map fun r=>workD [r] y);rw[mD] at hrl;refine buwork_of _ _ 77 78 (look_5 rfl) enters_busums W v _ hsv hv fun W' v' hb hv'=>busums_some (.mk 5 t v0 p o n (y::rest)) rfl (fun r=>workD [r] y) rows hm W' v' ra rc hv' (hrw.bl hb) (fun _=>⟨by omega,int_seq fun z hz=>?_⟩) fun r hr W2 v2 g hb2 hv2 hr2=>?_
    ·obtain⟨r,hr,rfl⟩:=List.mem_map.1 hz;exact int_work y [r] (by simp) (fun q hq=>by rw[gQ.1 hq];exact hint r hr) (ints_mem hi.2 (by simp))
    ·exact IH y (by simp) [r] (by simp) (fun q hq=>by rw[gQ.1 hq];exact hlen r hr) (fun q hq=>by rw[gQ.1 hq];exact hint r hr) W2 v2 _ _ hv2 hr2
end
section
structure EvF(c:Array Value)(W A:World):Prop where
 x:A.heap[W.heap.size]?=some (.cells c 30 (0,0))
 v:A.heap[W.heap.size+1]?=some (.cells #[.int .i64 0,.int .i64 0,S []] 26 (0,0))
 e:A.heap[W.heap.size+2]?=some (.cells #[.int .i64 0] 37 (0,0))
 bl:Bl W A
theorem EvF.call{c:Array Value}{W A B:World}(h:EvF c W A)(hb:Bl A B):EvF c W B:=⟨keep_b h.x hb,keep_b h.v hb,keep_b h.e hb,h.bl.call hb⟩
theorem EvF.alloc{c:Array Value}{W A:World}(h:EvF c W A)(o:Obj):EvF c W (A.alloc o):=h.call ((Bl.refl A).alloc o)
theorem EvF.start(c:Array Value)(W:World):EvF c W (((W.alloc (.cells c 30)).alloc (.cells #[.int .i64 0,.int .i64 0,S []] 26)).alloc (.cells #[.int .i64 0] 37)):=
 ⟨keep_b (keep_b (aN W _) ((Bl.refl _).alloc _)) ((Bl.refl _).alloc _),keep_b (aV _ _ (by simp)) ((Bl.refl _).alloc _),aV _ _ (by simp),(((Bl.refl W).alloc _).alloc _).alloc _⟩
theorem bEval1_any(b:Nat)(x0 x1 x2:Value)(w:World)(h:w.heap[b]?=some (.cells #[x0,x1,x2] 26 (0,0))):Calls Tryz.prog 42 #[.pointer (some ⟨b,0,none⟩)] w fun e w'=>e= .returned (.tuple #[])/\(But b w w'/\w'.heap[b]?=some (.cells (cells3 zVl).toArray 26 (0,0))):=by
 go_enter Tryz.func42,Tryz.ntmps42;go_wp2_with (refine bA (old:=[x0,x1,x2]) rfl rfl rfl rfl (cells3 zVl) h rfl rfl vlInfo rfl ?_)
 intro w9 hB9 hX9;go_wp2;go_end0;exact⟨rfl,hB9,hX9⟩
theorem enters_bEval1(args:Array Value)(w:World):(callFunc 42 args).run Tryz.prog w= .ok (.enter 42 args) w:=by simp[go_sem]
theorem eval_no{b:Bd}{r:List Vl}(h:(rightD r.length b&&rowB r&& !sumsD b)=false):evalQ b r=(zVl,2):=by unfold evalQ;rw[if_pos h]
theorem eval_bad{b:Bd}{r:List Vl}(h:(rightD r.length b&&rowB r&& !sumsD b)=true)(h2:(workD [r] b).2≠0):evalQ b r=(zVl,(workD [r] b).2):=by unfold evalQ;rw[if_neg (by rw[h];decide),if_pos h2]
theorem eval_yes{b:Bd}{r:List Vl}(h:(rightD r.length b&&rowB r&& !sumsD b)=true)(h2:(workD [r] b).2=0):evalQ b r=workD [r] b:=by unfold evalQ;rw[if_neg (by rw[h];decide),if_neg (fun e=>e h2)]
theorem bEval_any(b:Bd)(row:List Vl)(hp:partsD b<=1000000)(hi:intsD b)(hl:row.length<=1000000)(hint:∀v∈row,IntV v)(W:World)(v:Value)(ra:Option Addr)(rc:Nat)(hv:ReadsD W b v)(hr:ReadsVl (fun _=>True) W (.slice ra row.length rc) row):
  Calls Tryz.prog 21 #[v,.slice ra row.length rc] W fun e w'=>e= .returned (.tuple #[VlV (evalQ b row).1,.int .i64 (evalQ b row).2])/\Bl W w':=by
 obtain⟨Z,HZ⟩:∃Z,Hid (evalQ b row=Z):=⟨_,rfl⟩
 rw[HZ.o];have HCK:Hid (∀W',Bl W W'->Calls Tryz.prog 27 #[v,.int .i64 (row.length:Int)] W' fun e w'=>e= .returned (.int .i64 (if rightD row.length b then 0 else 2))/\Bl W' w'):=fun W' hb=>bCheck_any row.length b hp W' v (hv.bl hb);have HSM:Hid (∀W',Bl W W'->Calls Tryz.prog 17 #[v] W' fun e w'=>e= .returned (.bool (sumsD b))/\Bl W' w'):=fun W' hb=>bSums_any _ b (aH _) hp W' v (hv.bl hb);have HRT:Hid (∀W',Bl W W'->Calls Tryz.prog 26 #[.slice ra row.length rc] W' fun e w'=>(rowB row=true/\e= .returned (.tuple #[])\/rowB row=false/\e=panE 2)/\Bl W' w'):=fun W' hb=>bright_any hl (hr.bl hb);have HWK:Hid (rightD row.length b=true->∀W' g,Bl W W'->W'.heap[g]?=some (.cells #[.slice ra row.length rc] 36 (0,0))->Calls Tryz.prog 28 #[v,.slice (some ⟨g,0,none⟩) 1 1] W' fun e w'=>e=resV ((workD [row] b).1,(workD [row] b).2)/\Bl W' w'):=fun h W' g hb hg=>
  buwork_any row.length _ hp b (aH _) h hi [row] (by simp) (by simp) (by simpa using hint) W' v _ _ (hv.bl hb) (one_row hg (hr.bl hb))
 have HNO:=aB (fun h=>eval_no (b:=b) (r:=row) h);have HBD:=aB (fun h h2=>eval_bad (b:=b) (r:=row) h h2);have HYE:=aB (fun h (h2:(workD [row] b).2=0)=>(eval_yes (b:=b) (r:=row) h h2).trans (show workD [row] b=((workD [row] b).1,(workD [row] b).2) from rfl));rw[HZ.o] at HNO HBD HYE;generalize rightD row.length b=A at *;generalize sumsD b=Sm at *;generalize rowB row=R at *;generalize (workD [row] b).1=rv at *;generalize (workD [row] b).2=c at *;clear HZ hp hi hint hr;obtain⟨sv,rfl,hR⟩:=hv;obtain⟨a,cap,rfl,-⟩:=hR.shape;clear hR;obtain⟨k,t,⟨v1,v2,v3⟩,p,o,n,args⟩:=b;simp only[Bd.k,Bd.t,Bd.v,Bd.p,Bd.o,Bd.n,Bd.args] at *;generalize args.length=m at *;generalize row.length=q at *;have HF0:=aB (EvF.start (cellsB k t v1 v2 v3 p o n (.slice a m cap)) W);have HFX:=aB (HF0.o.x);obtain⟨g0,g1,g2,g3,g4,g5,g6,g7,g8⟩:=nine HF0.o.x;cases A
 ·have HZ:=aB (HNO.o (by rfl))
  go_enter_defers Tryz.func21,Tryz.ntmps21
  go_wp2_with fail;refine(HCK.o _ HF0.o.bl).mono ?_;rintro e w1 ⟨rfl,hb1⟩;have HF1:=aB (HF0.o.call hb1);clear hb1 g0 g1 g2 g3 g4 g5 g6 g7 g8;go_wp2_with fail
  (with_reducible refine(bmust_no _ _).mono ?_)
  rintro e w2 ⟨rfl,rfl⟩;have c1:=cK (HF1.o).e;have z1:=aJ (HF1.o).e 0
  try unfold panE
  go_wp2_with fail;refine leaves_cons (f:=23) (args:= #[.pointer (some ⟨W.heap.size+2,0,none⟩),.func (.func 42) #[] #[.pointer (some ⟨W.heap.size+1,0,none⟩)]]) (by simp) (by simp[go_sem]) ?_;have h3:=bcaught_panic ⟨W.heap.size+2,0,none⟩ 0 (2) 42 #[] #[.pointer (some ⟨W.heap.size+1,0,none⟩)] #[.pointer (some ⟨W.heap.size+1,0,none⟩)] (by simp) _ _ c1 z1 enters_bEval1 (bEval1_any (W.heap.size+1) _ _ _ _ (set1_other (HF1.o).v (b:=W.heap.size+2) (by omega) 0 (.int .i64 (2))));refine h3.mono ?_;rintro e u' w'' ⟨rfl,rfl,hB9,hX9⟩;obtain⟨r0,r1,r2⟩:=three3 hX9;have r3:=cK ((hB9.same (W.heap.size+2) (by omega)).trans (lN (HF1.o).e 0 (.int .i64 (2))));refine⟨.tuple #[VlV zVl,.int .i64 (2)],by simp[results,Tryz.results21,go_sem,r0,r1,r2,r3],by rw[HZ.o],hB9.bl ((HF1.o).bl.set (p:=⟨W.heap.size+2,0,none⟩) (by show W.heap.size<=W.heap.size+2;omega) _) (by omega)⟩
 ·cases Sm
  ·cases R
   ·have HZ:=aB (HNO.o (by rfl))
    go_enter_defers Tryz.func21,Tryz.ntmps21
    go_wp2_with fail;refine(HCK.o _ HF0.o.bl).mono ?_;rintro e w1 ⟨rfl,hb1⟩;have HF1:=aB (HF0.o.call hb1);clear hb1 g0 g1 g2 g3 g4 g5 g6 g7 g8;go_wp2_with (refine wpList_load_rowG (by first |rfl|(simp[jG,yielded];done)|(simp[jG,yielded];omega)) 30 (.tmp 2) rfl W.heap.size rfl 30 _ (0,0) _ HF1.o.x Tryz.underlying30 rfl bdInfo ?_)
    refine(HSM.o _ HF1.o.bl).mono ?_;rintro e w2 ⟨rfl,hb2⟩;have HF2:=aB (HF1.o.call hb2);clear hb2;go_wp2_with fail
    (with_reducible refine(bmust_yes _ _).mono ?_)
    rintro e w3 ⟨rfl,rfl⟩;go_wp2_with fail;refine(HRT.o _ HF2.o.bl).mono ?_;rintro e w4 ⟨⟨h,rfl⟩|⟨-,rfl⟩,hb4⟩
    ·cases h
    have HF4:=aB (HF2.o.call hb4);clear hb4;have c1:=cK (HF4.o).e;have z1:=aJ (HF4.o).e 0
    try unfold panE
    go_wp2_with fail;refine leaves_cons (f:=23) (args:= #[.pointer (some ⟨W.heap.size+2,0,none⟩),.func (.func 42) #[] #[.pointer (some ⟨W.heap.size+1,0,none⟩)]]) (by simp) (by simp[go_sem]) ?_;have h3:=bcaught_panic ⟨W.heap.size+2,0,none⟩ 0 (2) 42 #[] #[.pointer (some ⟨W.heap.size+1,0,none⟩)] #[.pointer (some ⟨W.heap.size+1,0,none⟩)] (by simp) _ _ c1 z1 enters_bEval1 (bEval1_any (W.heap.size+1) _ _ _ _ (set1_other (HF4.o).v (b:=W.heap.size+2) (by omega) 0 (.int .i64 (2))));refine h3.mono ?_;rintro e u' w'' ⟨rfl,rfl,hB9,hX9⟩;obtain⟨r0,r1,r2⟩:=three3 hX9;have r3:=cK ((hB9.same (W.heap.size+2) (by omega)).trans (lN (HF4.o).e 0 (.int .i64 (2))));refine⟨.tuple #[VlV zVl,.int .i64 (2)],by simp[results,Tryz.results21,go_sem,r0,r1,r2,r3],by rw[HZ.o],hB9.bl ((HF4.o).bl.set (p:=⟨W.heap.size+2,0,none⟩) (by show W.heap.size<=W.heap.size+2;omega) _) (by omega)⟩
   ·have HB3:=aB (HBD.o (by rfl));have HY3:=aB (HYE.o (by rfl));have HW3:=aB (HWK.o (by trivial));clear HNO HBD HYE HWK
    go_enter_defers Tryz.func21,Tryz.ntmps21
    go_wp2_with fail;refine(HCK.o _ HF0.o.bl).mono ?_;rintro e w1 ⟨rfl,hb1⟩;have HF1:=aB (HF0.o.call hb1);clear hb1 g0 g1 g2 g3 g4 g5 g6 g7 g8;go_wp2_with (refine wpList_load_rowG (by first |rfl|(simp[jG,yielded];done)|(simp[jG,yielded];omega)) 30 (.tmp 2) rfl W.heap.size rfl 30 _ (0,0) _ HF1.o.x Tryz.underlying30 rfl bdInfo ?_)
    refine(HSM.o _ HF1.o.bl).mono ?_;rintro e w2 ⟨rfl,hb2⟩;have HF2:=aB (HF1.o.call hb2);clear hb2;go_wp2_with fail
    (with_reducible refine(bmust_yes _ _).mono ?_)
    rintro e w3 ⟨rfl,rfl⟩;go_wp2_with fail;refine(HRT.o _ HF2.o.bl).mono ?_;rintro e w4 ⟨⟨-,rfl⟩|⟨h,rfl⟩,hb4⟩;rotate_left
    ·cases h
    have HF4:=aB (HF2.o.call hb4);obtain⟨g0,g1,g2,g3,g4,g5,g6,g7,g8⟩:=nine HF4.o.x;have HF5:=aB (HF4.o.alloc (.cells #[.slice ra q rc] 36));have HG5:=aB (aN w4 (.cells #[.slice ra q rc] 36));clear hb4;go_wp2_with fail;refine(HW3.o _ w4.heap.size HF5.o.bl HG5.o).mono ?_;rintro e w5 ⟨he,hb5⟩;have HF6:=aB (HF5.o.call hb5);clear g0 g1 g2 g3 g4 g5 g6 g7 g8 hb5;rcases resV_ways rv c with⟨hc,hh⟩|⟨hc,hh⟩
    ·rw[hh] at he;subst he;have HZ:=aB ((HY3.o hc).trans (by rw[hc]):Z=(rv,0));clear hh hc HB3 HY3;go_wp2_with (refine bA rfl rfl rfl rfl (cells3 rv) (HF6.o).v rfl rfl vlInfo rfl ?_)
     intro w8 hB8 hX8;have hE8:=(hB8.same (W.heap.size+2) (by omega)).trans (HF6.o).e;have c1:=cK hE8;have z1:=aJ hE8 0;obtain⟨q0,q1,q2⟩:=three3 hX8;go_wp2_with fail;refine leaves_cons (f:=23) (args:= #[.pointer (some ⟨W.heap.size+2,0,none⟩),.func (.func 42) #[] #[.pointer (some ⟨W.heap.size+1,0,none⟩)]]) (by simp) (by simp[go_sem]) ?_;refine(bcaught_idle _ _ _).mono ?_;rintro e u' w'' ⟨rfl,rfl,rfl⟩;obtain⟨r0,r1,r2⟩:=three3 (set1_other hX8 (b:=W.heap.size+2) (by omega) 0 (.int .i64 0));have r3:=cK (lN hE8 0 (.int .i64 0));refine⟨.tuple #[VlV rv,.int .i64 0],by simp[results,Tryz.results21,go_sem,r0,r1,r2,r3],by rw[HZ.o],(hB8.bl (HF6.o).bl (by omega)).set (p:=⟨W.heap.size+2,0,none⟩) (by show W.heap.size<=W.heap.size+2;omega) _⟩
    ·rw[hh] at he;subst he;have HZ:=aB (HB3.o hc);clear hh hc HB3 HY3;have c1:=cK (HF6.o).e;have z1:=aJ (HF6.o).e 0
     try unfold panE
     go_wp2_with fail;refine leaves_cons (f:=23) (args:= #[.pointer (some ⟨W.heap.size+2,0,none⟩),.func (.func 42) #[] #[.pointer (some ⟨W.heap.size+1,0,none⟩)]]) (by simp) (by simp[go_sem]) ?_;have h3:=bcaught_panic ⟨W.heap.size+2,0,none⟩ 0 (c) 42 #[] #[.pointer (some ⟨W.heap.size+1,0,none⟩)] #[.pointer (some ⟨W.heap.size+1,0,none⟩)] (by simp) _ _ c1 z1 enters_bEval1 (bEval1_any (W.heap.size+1) _ _ _ _ (set1_other (HF6.o).v (b:=W.heap.size+2) (by omega) 0 (.int .i64 (c))));refine h3.mono ?_;rintro e u' w'' ⟨rfl,rfl,hB9,hX9⟩;obtain⟨r0,r1,r2⟩:=three3 hX9;have r3:=cK ((hB9.same (W.heap.size+2) (by omega)).trans (lN (HF6.o).e 0 (.int .i64 (c))));refine⟨.tuple #[VlV zVl,.int .i64 (c)],by simp[results,Tryz.results21,go_sem,r0,r1,r2,r3],by rw[HZ.o],hB9.bl ((HF6.o).bl.set (p:=⟨W.heap.size+2,0,none⟩) (by show W.heap.size<=W.heap.size+2;omega) _) (by omega)⟩
  ·have HZ:=aB (HNO.o (by cases R<;>rfl))
   go_enter_defers Tryz.func21,Tryz.ntmps21
   go_wp2_with fail;refine(HCK.o _ HF0.o.bl).mono ?_;rintro e w1 ⟨rfl,hb1⟩;have HF1:=aB (HF0.o.call hb1);clear hb1 g0 g1 g2 g3 g4 g5 g6 g7 g8;go_wp2_with (refine wpList_load_rowG (by first |rfl|(simp[jG,yielded];done)|(simp[jG,yielded];omega)) 30 (.tmp 2) rfl W.heap.size rfl 30 _ (0,0) _ HF1.o.x Tryz.underlying30 rfl bdInfo ?_)
   refine(HSM.o _ HF1.o.bl).mono ?_;rintro e w2 ⟨rfl,hb2⟩;have HF2:=aB (HF1.o.call hb2);clear hb2;go_wp2_with fail
   (with_reducible refine(bmust_no _ _).mono ?_)
   rintro e w3 ⟨rfl,rfl⟩;have c1:=cK (HF2.o).e;have z1:=aJ (HF2.o).e 0
   try unfold panE
   go_wp2_with fail;refine leaves_cons (f:=23) (args:= #[.pointer (some ⟨W.heap.size+2,0,none⟩),.func (.func 42) #[] #[.pointer (some ⟨W.heap.size+1,0,none⟩)]]) (by simp) (by simp[go_sem]) ?_;have h3:=bcaught_panic ⟨W.heap.size+2,0,none⟩ 0 (2) 42 #[] #[.pointer (some ⟨W.heap.size+1,0,none⟩)] #[.pointer (some ⟨W.heap.size+1,0,none⟩)] (by simp) _ _ c1 z1 enters_bEval1 (bEval1_any (W.heap.size+1) _ _ _ _ (set1_other (HF2.o).v (b:=W.heap.size+2) (by omega) 0 (.int .i64 (2))));refine h3.mono ?_;rintro e u' w'' ⟨rfl,rfl,hB9,hX9⟩;obtain⟨r0,r1,r2⟩:=three3 hX9;have r3:=cK ((hB9.same (W.heap.size+2) (by omega)).trans (lN (HF2.o).e 0 (.int .i64 (2))));refine⟨.tuple #[VlV zVl,.int .i64 (2)],by simp[results,Tryz.results21,go_sem,r0,r1,r2,r3],by rw[HZ.o],hB9.bl ((HF2.o).bl.set (p:=⟨W.heap.size+2,0,none⟩) (by show W.heap.size<=W.heap.size+2;omega) _) (by omega)⟩
end
end Go.Proofs.YtkimpcmkminffaaGreatDoor
