/- Texts beside the shared ones. -/
import Derived.Test.YtkimpcmkminffaaGreatDoorWX0
import Derived.Test.YtkimpcmkminffaaGreatDoorWM3
import Derived.Test.YtkimpcmkminffaaGreatDoorWM4
namespace Go.Proofs.YtkimpcmkminffaaGreatDoor
open Go.RowKit
open _root_.Go.Act renaming put->aK
open _root_.Array renaming getElem?_eq_some_iff->aC
open _root_.Go.RowKit.Below renaming grown->iL
open _root_.Bool renaming eq_iff_iff->kC,false_and->pK
open _root_.Go.Lib renaming cell_of_heap->aG,hid->aB
open _root_.List renaming append_assoc->iK,drop_eq_getElem_cons->aZ,drop_length->dO,getElem?_drop->iE,getElem?_eq_getElem->aP,getElem?_take->rA,getElem_cons_zero->jB,getElem_mem->dS,length_append->bD,length_map->mD,map_cons->kP,map_nil->qZ,mem_append->iX,mem_cons->dD,mem_singleton->gQ,setIfInBounds_toArray->aA,set_cons_succ->aF,set_cons_zero->aD,size_toArray->gG,take_append_drop->gF,take_length->gJ,take_of_length_le->jS
open _root_.Nat renaming le_refl->aH,le_trans->jH,zero_add->gD,zero_le->dL
open _root_.Go.World renaming block_lt_of_cell?->bB,ownsRow_nil->d2l
set_option maxRecDepth 100000
set_option maxHeartbeats 8000000
section
def seqV:List (Vl×Int)->List Vl×Int
 |[]=>([],0)
 |y::r=>if y.2≠0 then([],y.2) else if(seqV r).2≠0 then([],(seqV r).2) else(y.1::(seqV r).1,0)
theorem works_seq(rows:List (List Vl)):∀l:List Bd,worksD rows l=seqV (l.map (workD rows))
 |[]=>rfl
 |x::r=>by
  simp only[worksD,kP,seqV,works_seq rows r]
theorem over_seq(rows:List (List Vl))(x:Bd)(l:List Bd):overD rows (x::l)=seqV (rows.map fun r=>workD [r] x):=by
 unfold overD
 induction rows with
 |nil=>rfl
 |cons r rs ih=>
  simp only[List.foldr_cons,kP,seqV];rw[ih]
theorem seq_ok:∀{l:List (Vl×Int)},(∀y∈l,y.2=0)->seqV l=(l.map (·.1),0)
 |[],_=>rfl
 |y::r,h=>by
  have h1:=h y (by simp);have h2:=seq_ok (l:=r) fun z hz=>h z (List.mem_cons_of_mem _ hz);simp[seqV,h1,h2]
theorem seq_bad:∀{l:List (Vl×Int)} {j:Nat} (hj:j<l.length),(∀y∈l.take j,y.2=0)->l[j].2≠0->seqV l=([],l[j].2)
 |[],_,hj,_,_=>by cases hj
 |y::r,0,_,_,h=>by
  have h:y.2≠0:=h;simp only[seqV,jB];rw[if_pos h]
 |y::r,j+1,hj,ha,h=>by
  have h1:y.2=0:=ha y (by simp);have h2:=seq_bad (l:=r) (j:=j) (by simpa using hj) (fun z hz=>ha z (by simp[hz])) (by simpa using h);simp only[seqV,List.getElem_cons_succ];rw[if_neg (fun e=>e h1),h2];simp only;rw[if_pos (by simpa using h)]
def ManyV(base:Nat)(r:List Vl×Int)(W:World)(e:Ending)(w':World):Prop:=
 (r.2=0/\(∃v,e= .returned v/\ReadsVl (fun b=>base<=b) w' v r.1)\/r.2≠0/\e=panE r.2)/\Bl W w'
theorem buvalues1_any{y:Bd}{r:Vl×Int}{W:World}{bx:Nat}{sv:Value}(hx:W.cell? ⟨bx,0,none⟩=some sv)(v:Value)(hv:ReadsD W y v)
  (hw:∀(W':World) (v':Value),Bl W W'->ReadsD W' y v'->Calls Tryz.prog 28 #[v',sv] W' fun e w'=>e=resV r/\Bl W' w') (hsv:∃a n c,sv= .slice a n c):
  Calls Tryz.prog 129 #[v,.pointer (some ⟨bx,0,none⟩)] W fun e w'=>e=resV r/\Bl W w':=by
 obtain⟨sl,rfl,hR⟩:=hv;obtain⟨a,cap,rfl,-⟩:=hR.shape;obtain⟨ra,rn,rc,rfl⟩:=hsv;have HW:Hid (∀W',Bl W W'->Calls Tryz.prog 28 #[BdV y.k y.t y.v y.p y.o y.n (.slice a y.args.length cap),.slice ra rn rc] W' fun e w'=>e=resV r/\Bl W' w'):=fun W' hb=>hw W' _ hb ⟨_,rfl,hR.bl hb⟩;have hbx:bx<W.heap.size:=(by have:=bB _ _ hx;simpa using this);clear hw hR;obtain⟨k,t,⟨v1,v2,v3⟩,p,o,n,args⟩:=y;simp only[Bd.k,Bd.t,Bd.v,Bd.p,Bd.o,Bd.n,Bd.args] at *;generalize args.length=m at *;obtain⟨rv,c⟩:=r;obtain⟨Z,HZ⟩:∃Z,Hid (resV (rv,c)=Z):=⟨_,rfl⟩
 have HR0:=aB (aV (W.alloc (.cells (cellsB k t v1 v2 v3 p o n (.slice a m cap)) 30)) (.cells #[.int .i64 0,.int .i64 0,S []] 26) (k:=W.heap.size+1) (by simp));have HB0:=aB (((Bl.refl W).alloc (.cells (cellsB k t v1 v2 v3 p o n (.slice a m cap)) 30)).alloc (.cells #[.int .i64 0,.int .i64 0,S []] 26));rcases resV_ways rv c with⟨hc,h⟩|⟨hc,h⟩
 ·rw[h] at HW HZ⊢;clear h hc;go_enter Tryz.func129,Tryz.ntmps129;go_wp2_with fail;refine(HW.o _ HB0.o).mono ?_;rintro e w1 ⟨rfl,hb1⟩;go_wp2_with (refine bA rfl rfl rfl rfl (cells3 rv) (keep_b HR0.o hb1) rfl rfl vlInfo rfl ?_)
  intro w9 hB9 hX9;go_wp2;exact bodyPost_ret (v:=VlV rv) (results_cell_row (p:=3) (ty:=26) rfl _ _ (W.heap.size+1) 26 _ (0,0) _ rfl hX9 Tryz.underlying26 rfl vlInfo) rfl ⟨rfl,hB9.bl (HB0.o.call hb1) (by omega)⟩
 ·rw[h] at HW HZ⊢;clear h hc;go_enter Tryz.func129,Tryz.ntmps129;go_wp2_with fail;refine(HW.o _ HB0.o).mono ?_;rintro e w1 ⟨rfl,hb1⟩;go_wp2;exact⟨rfl,rfl,HB0.o.call hb1⟩
theorem enters_buvalues1(args:Array Value)(w:World):(callFunc 129 args).run Tryz.prog w= .ok (.enter 129 args) w:=by simp[go_sem]
theorem bsomeV_any{l:List Bd}{f:Bd->Vl×Int}{a:Option Addr}{cap bx:Nat}{sv:Value}(hfew:l.length<=1000000)(W:World)(hR:ReadsDL (fun _=>True) W (.slice a l.length cap) l)(hx:W.cell? ⟨bx,0,none⟩=some sv)(hsv:∃a n c,sv= .slice a n c)
  (hf:∀y∈l,∀(W':World) (v:Value),Bl W W'->ReadsD W' y v->Calls Tryz.prog 28 #[v,sv] W' fun e w'=>e=resV (f y)/\Bl W' w'):
  Calls Tryz.prog 128 #[.slice a l.length cap,.func (.func 129) #[] #[.pointer (some ⟨bx,0,none⟩)]] W (ManyV W.heap.size (seqV (l.map f)) W):=by
 obtain⟨a',cap',e,hc⟩:=hR.shape;obtain⟨rfl,rfl⟩:a=a'/\cap=cap':=(by simpa using e);have HC:=aB hc;have hen:=enters_buvalues1;have HF1:Hid (∀y∈l,∀(W':World) (v:Value),Bl W W'->ReadsD W' y v->Calls Tryz.prog 129 #[v,.pointer (some ⟨bx,0,none⟩)] W' fun e w'=>e=resV (f y)/\Bl W' w'):=fun y hy W' v hb hv=>
  buvalues1_any (Bl.cell hb hx) v hv (fun W2 v' hb2 hv'=>hf y hy W2 v' (hb.call hb2) hv') hsv
 have hlf:(l.map f).length=l.length:=(by simp);obtain⟨R,HR⟩:∃R,Hid (seqV (l.map f)=R):=⟨_,rfl⟩
 rw[HR.o];clear hR hc e hf hx hsv;go_enter Tryz.func128,Tryz.ntmps128;go_wp2_with fail;go_loopw [4,9] (fun ts i wr=>∃(j:Nat) (v0:Value),v0=ts/\j<=l.length/\i= .int .i64 (j:Int)/\Hid (wr.ownsRow W.heap.size 26 3 v0 j (((l.map fun y=>(f y).1).take j).flatMap cells3))/\Hid (∀y∈(l.map f).take j,y.2=0)/\Hid (Bl W wr)) (fun _ i _=>l.length-(intOf i).toNat)
 case atStart=>exact⟨0,_,rfl,dL _,rfl,d2l _ _ _ _,fun y hy=>by simp at hy,Bl.refl W⟩
 case round=>
  obtain⟨j,v0,rfl,hj,rfl,HO,HOK,HB⟩:=hrel;by_cases hlt:j<l.length
  ·obtain⟨b,off,s,rfl,-,hbl,h9,hr⟩:=HC.o j hlt;have HM:=aB (dS hlt);have HJ:=aB (show(l.map f)[j]'(by simpa using hlt)=f l[j] from by simp);have HSN:=aB (show((l.map fun y=>(f y).1).take (j+1)).flatMap cells3=((l.map fun y=>(f y).1).take j).flatMap cells3++cells3 (f l[j]).1 from by
    rw[takeD_snoc (l.map fun y=>(f y).1) (by simpa using hlt),List.flatMap_append,List.getElem_map];simp)
   have HBAD:=aB (fun h=>seq_bad (l:=l.map f) (j:=j) (by simpa using hlt) HOK.o h);have HGO:=aB (fun(h:(f l[j]).2=0)=>(show ∀y∈(l.map f).take (j+1),y.2=0 from fun y hy=>by
    rw[takeD_snoc (l.map f) (by simpa using hlt)] at hy;rcases iX.1 hy with hy|hy
    ·exact HOK.o y hy
    ·rw[gQ.1 hy,List.getElem_map];exact h))
   rw[HJ.o,HR.o] at HBAD;obtain⟨asl,cs,rfl,-⟩:=hr.shape;have HRR:=aB (hr.bl HB.o);obtain⟨e0,e1,e2,e3,e4,e5,e6,e7,e8⟩:=(h9.keep (HB.o.block b hbl)).nine;have HFY:=aB (HF1.o _ HM.o);clear h9 hr HJ HM;generalize hy:l[j]=y at *;clear hy;generalize f y=ry at *;obtain⟨⟨r1,r2,r3⟩,c⟩:=ry;obtain⟨k',t',⟨v1',v2',v3'⟩,p',o',nm',args'⟩:=y;simp only[Bd.k,Bd.t,Bd.v,Bd.p,Bd.o,Bd.n,Bd.args] at e0 e1 e2 e3 e4 e5 e6 e7 e8 HRR;have HW0:=aB (HB.o.alloc (.cells (cellsB k' t' v1' v2' v3' p' o' nm' (.slice asl args'.length cs)) 30));have HA0:=aB ((Bl.refl wr).alloc (.cells (cellsB k' t' v1' v2' v3' p' o' nm' (.slice asl args'.length cs)) 30));have HCL:=aB (HFY.o _ (BdV k' t' (v1',v2',v3') p' o' nm' (.slice asl args'.length cs)) HW0.o ⟨_,rfl,HRR.o.bl HA0.o⟩);have hlt':(j:Int)<(l.length:Int):=(by omega);rcases resV_ways (r1,r2,r3) c with⟨hc,h⟩|⟨hc,h⟩
   ·rw[h] at HCL;have HG2:=aB (HGO.o hc);clear h hc HGO HBAD HFY HRR;go_wp2_with fail;refine HCL.o.mono ?_;rintro e w1 ⟨rfl,hb1⟩;have HB1:=aB (HW0.o.call hb1);have HO1:=aB (gY ((HA0.o.call hb1).alloc (.cells #[.int .i64 r1,.int .i64 r2,S r3] 26)) HO.o);have HN1:=aB (aN w1 (.cells #[.int .i64 r1,.int .i64 r2,S r3] 26));have hz1:W.heap.size<=(w1.alloc (.cells #[.int .i64 r1,.int .i64 r2,S r3] 26)).heap.size:=by
     have:=HB1.o.size;simp;omega
    clear hb1 e0 e1 e2 e3 e4 e5 e6 e7 e8 HCL;go_wp2_with (at_builtin;refine wpList_append_row rfl (.tmp 13) (.tmp 17) rfl vlFull Tryz.underlying36 rfl (by decide) (by decide) W.heap.size _ j _ rfl HO1.o w1.heap.size [.int .i64 r1,.int .i64 r2,S r3] rfl HN1.o rfl rfl (by omega) hz1 ?_)
    intro v' w2 hown2 hg2 _;have hlow:=HO1.o.lt;have HB2:=aB (iL (HB1.o.alloc (.cells #[.int .i64 r1,.int .i64 r2,S r3] 26)) hg2 hz1 (fun i hi=>(hlow i hi).1));have HO2:=aB hown2;clear hown2 hg2 hlow;go_wp2;go_roundw
    case rel=>exact⟨j+1,_,rfl,by omega,by go_num,by rw[HSN.o];exact HO2.o,HG2.o,HB2.o⟩
    case measure=>simp[intOf];omega
   ·rw[h] at HCL;have HR2:=aB (show R=([],c) from HBAD.o hc);have HCC:=aB hc;clear h hc HGO HBAD HFY HRR;go_wp2_with fail;refine HCL.o.mono ?_;rintro e w1 ⟨rfl,hb1⟩;go_wp2;exact⟨rfl,.inr ⟨by rw[HR2.o];exact HCC.o,by rw[HR2.o]⟩,HW0.o.call hb1⟩
  ·obtain rfl:j=l.length:=by omega
   have HAL:=aB (show ∀y∈l.map f,y.2=0 from fun y hy=>HOK.o y (by rw[jS (by simp)];exact hy));have HR2:=aB (show R=(l.map fun y=>(f y).1,0) from(HR.o.symm.trans (seq_ok HAL.o)).trans (by rw[List.map_map];rfl));have HV:Hid (ReadsVl (fun b=>W.heap.size<=b) wr v0 (l.map fun y=>(f y).1)):=by
    have h:=HO.o;rw[jS (by simp)] at h;exact own_vals (by rw[mD];exact h)
   have hge:¬((l.length:Int)<(l.length:Int)):=(by omega);obtain⟨va,vc,hva,-⟩:=HV.o;rw[mD] at hva;subst hva;clear HO HOK HAL HC HF1;go_wp2;go_ret;exact⟨.inl ⟨by rw[HR2.o],_,rfl,by rw[HR2.o];exact HV.o⟩,HB.o⟩
theorem buvalues_any(x:Bd)(f:Bd->Vl×Int)(hfew:x.args.length<=1000000)(W:World)(v sv:Value)(hv:ReadsD W x v)(hsv:∃a n c,sv= .slice a n c)
  (hf:∀y∈x.args,∀(W':World) (v:Value),Bl W W'->ReadsD W' y v->Calls Tryz.prog 28 #[v,sv] W' fun e w'=>e=resV (f y)/\Bl W' w'):
  Calls Tryz.prog 96 #[v,sv] W (ManyV W.heap.size (seqV (x.args.map f)) W):=by
 obtain⟨sl,rfl,hR⟩:=hv;obtain⟨a,cap,rfl,-⟩:=hR.shape;obtain⟨ra,rn,rc,rfl⟩:=hsv;have HS:Hid (∀W',Bl W W'->∀bx,W'.cell? ⟨bx,0,none⟩=some (.slice ra rn rc)->Calls Tryz.prog 128 #[.slice a x.args.length cap,.func (.func 129) #[] #[.pointer (some ⟨bx,0,none⟩)]] W' (ManyV W'.heap.size (seqV (x.args.map f)) W')):=fun W' hb bx hx=>
  bsomeV_any hfew W' (hR.bl hb) hx ⟨_,_,_,rfl⟩ fun y hy W2 v hb2 hv=>hf y hy W2 v (hb.call hb2) hv
 generalize seqV (x.args.map f)=R at *;clear hR hf hfew;obtain⟨k,t,⟨v1,v2,v3⟩,p,o,n,args⟩:=x;simp only[Bd.k,Bd.t,Bd.v,Bd.p,Bd.o,Bd.n,Bd.args] at *;generalize args.length=m at *;have HB0:=aB (((Bl.refl W).alloc (.cells (cellsB k t v1 v2 v3 p o n (.slice a m cap)) 73)).alloc (.cells #[.slice ra rn rc] 31));have hx0:=aV (W.alloc (.cells (cellsB k t v1 v2 v3 p o n (.slice a m cap)) 73)) (.cells #[.slice ra rn rc] 31) (k:=W.heap.size+1) (by simp);go_enter Tryz.func96,Tryz.ntmps96;go_wp2_with fail;refine(HS.o _ HB0.o (W.heap.size+1) (cK hx0)).mono ?_;rintro e w1 ⟨⟨h0,v,rfl,hv⟩|⟨hc,rfl⟩,hb1⟩
 ·have HV:=aB (ReadsVl.keep (aH _) (r:=fun b=>W.heap.size<=b) (fun b h=>by have:W.heap.size<=_:=HB0.o.size;omega) (fun _ _ _=>rfl) hv);have HH0:=aB h0;obtain⟨va,vc,rfl,-⟩:=hv;clear h0;go_wp2;go_ret;exact⟨.inl ⟨HH0.o,_,rfl,HV.o⟩,HB0.o.call hb1⟩
 ·have HH0:=aB hc;clear hc;go_wp2;exact⟨rfl,.inr ⟨HH0.o,rfl⟩,HB0.o.call hb1⟩
end
section
theorem resV_bad{v:Vl}{c:Int}(h:c≠0):resV (v,c)=panE c:=by unfold resV;rw[if_neg h]
theorem bkinds1_any(x:Bd)(W:World)(v sv:Value)(hv:ReadsD W x v):Calls Tryz.prog 70 #[v,sv] W fun e w'=>e=resV (x.v,0)/\Bl W w':=by
 obtain⟨Z,HZ⟩:∃Z,Hid (Z=resV (x.v,0)):=⟨_,rfl⟩
 obtain⟨sl,rfl,hR⟩:=hv;obtain⟨a,cap,rfl,-⟩:=hR.shape;clear hR;obtain⟨k,t,⟨v1,v2,v3⟩,p,o,n,args⟩:=x;simp only[Bd.k,Bd.t,Bd.v,Bd.p,Bd.o,Bd.n,Bd.args] at *;have HX0:=aB (keep_b (aN W (.cells (cellsB k t v1 v2 v3 p o n (.slice a args.length cap)) 73)) ((Bl.refl _).alloc (.cells #[.int .i64 0,.int .i64 0,S []] 26)));have HR0:=aB (aV (W.alloc (.cells (cellsB k t v1 v2 v3 p o n (.slice a args.length cap)) 73)) (.cells #[.int .i64 0,.int .i64 0,S []] 26) (k:=W.heap.size+1) (by simp));have HB0:=aB (((Bl.refl W).alloc (.cells (cellsB k t v1 v2 v3 p o n (.slice a args.length cap)) 73)).alloc (.cells #[.int .i64 0,.int .i64 0,S []] 26));rw[resV_yes];generalize args.length=m at *;go_enter Tryz.func70,Tryz.ntmps70;go_wp2;exact bodyPost_ret (v:=V v1 v2 v3) (by simp[results,Tryz.results70,go_sem]) rfl ⟨rfl,((Bl.refl _).alloc _).alloc _⟩
theorem bufield_nil(x:Bd)(W:World)(v:Value)(ra:Option Addr)(rc:Nat)(hv:ReadsD W x v):Calls Tryz.prog 72 #[v,.slice ra 0 rc] W fun e w'=>e=resV (zVl,0)/\Bl W w':=by
 obtain⟨Z,HZ⟩:∃Z,Hid (Z=resV (zVl,0)):=⟨_,rfl⟩
 obtain⟨sl,rfl,hR⟩:=hv;obtain⟨a,cap,rfl,-⟩:=hR.shape;clear hR;obtain⟨k,t,⟨v1,v2,v3⟩,p,o,n,args⟩:=x;simp only[Bd.k,Bd.t,Bd.v,Bd.p,Bd.o,Bd.n,Bd.args] at *;have HX0:=aB (keep_b (aN W (.cells (cellsB k t v1 v2 v3 p o n (.slice a args.length cap)) 73)) ((Bl.refl _).alloc (.cells #[.int .i64 0,.int .i64 0,S []] 26)));have HR0:=aB (aV (W.alloc (.cells (cellsB k t v1 v2 v3 p o n (.slice a args.length cap)) 73)) (.cells #[.int .i64 0,.int .i64 0,S []] 26) (k:=W.heap.size+1) (by simp));have HB0:=aB (((Bl.refl W).alloc (.cells (cellsB k t v1 v2 v3 p o n (.slice a args.length cap)) 73)).alloc (.cells #[.int .i64 0,.int .i64 0,S []] 26));rw[resV_yes];generalize args.length=m at *;go_enter Tryz.func72,Tryz.ntmps72;go_wp2;exact bodyPost_ret (v:=V 0 0 []) (by simp[results,Tryz.results72,go_sem]) rfl ⟨rfl,((Bl.refl _).alloc _).alloc _⟩
theorem bufield_at(x:Bd)(W:World)(v:Value)(ra:Option Addr)(rc m:Nat)(row:List Vl)(rows:List (List Vl))(hm:rows.length=m+1)(hv:ReadsD W x v)(hr:ReadsRw (fun _=>True) W (.slice ra rows.length rc) rows)(h0:rows[0]?=some row)(i:Nat)(hi:i<row.length)(hp:x.p=(i:Int)):
  Calls Tryz.prog 72 #[v,.slice ra rows.length rc] W fun e w'=>e=resV (row[i],0)/\Bl W w':=by
 obtain⟨ra',rc',e,hrr⟩:=hr;obtain⟨rfl,rfl⟩:ra=ra'/\rc=rc':=(by simpa using e);obtain⟨rb,ro,s,rfl,-,hlb,hcs,sa,sc,rfl,hvs⟩:=hrr 0 row h0;obtain⟨sb,so,rfl,-,hlsb,h3⟩:=hvs i _ (aP hi);obtain⟨e0,e1,e2⟩:=h3.three;rw[Nat.add_zero] at hcs;have HC1:=aB hcs;have hi':(i:Int)<(row.length:Int):=(by omega);rw[hm];generalize row[i]=y at *;obtain⟨y1,y2,y3⟩:=y;simp only at e0 e1 e2;clear hvs hrr e h3 hi;obtain⟨Z,HZ⟩:∃Z,Hid (Z=resV ((y1,y2,y3),0)):=⟨_,rfl⟩
 obtain⟨sl,rfl,hR⟩:=hv;obtain⟨a,cap,rfl,-⟩:=hR.shape;clear hR;obtain⟨k,t,⟨v1,v2,v3⟩,p,o,n,args⟩:=x;simp only[Bd.k,Bd.t,Bd.v,Bd.p,Bd.o,Bd.n,Bd.args] at *;have HX0:=aB (keep_b (aN W (.cells (cellsB k t v1 v2 v3 p o n (.slice a args.length cap)) 73)) ((Bl.refl _).alloc (.cells #[.int .i64 0,.int .i64 0,S []] 26)));have HR0:=aB (aV (W.alloc (.cells (cellsB k t v1 v2 v3 p o n (.slice a args.length cap)) 73)) (.cells #[.int .i64 0,.int .i64 0,S []] 26) (k:=W.heap.size+1) (by simp));have HB0:=aB (((Bl.refl W).alloc (.cells (cellsB k t v1 v2 v3 p o n (.slice a args.length cap)) 73)).alloc (.cells #[.int .i64 0,.int .i64 0,S []] 26));subst hp;rw[resV_yes];generalize args.length=q at *;generalize row.length=n2 at *;have E0:=aB e0;have E1:=aB e1;have E2:=aB e2;clear e0 e1 e2 hcs h0 hm;go_enter Tryz.func72,Tryz.ntmps72;go_wp2_with fail;obtain⟨w0,hw0⟩:∃w0,(W.alloc (.cells (cellsB k t v1 v2 v3 (i:Int) o n (.slice a q cap)) 73)).alloc (.cells #[.int .i64 0,.int .i64 0,S []] 26)=w0:=⟨_,rfl⟩
 rw[hw0] at HX0 HR0 HB0⊢;clear hw0;obtain⟨f0,f1,f2,f3,f4,f5,f6,f7,f8⟩:=nine HX0.o;have e0:=Bl.cell HB0.o E0.o;have e1:=Bl.cell HB0.o E1.o;have e2:=Bl.cell HB0.o E2.o;have ec:=Bl.cell HB0.o HC1.o
 go_still_tail 8,(by kernel_rfl)
 go_wp2_with (refine bA rfl rfl rfl rfl (cells3 (y1,y2,y3)) (show w0.drew.heap[W.heap.size+1]?=_ from HR0.o) rfl rfl vlInfo rfl ?_)
 intro w9 hB9 hX9;go_wp2;exact bodyPost_ret (v:=V y1 y2 y3) (results_cell_row (p:=4) (ty:=26) rfl _ _ (W.heap.size+1) 26 _ (0,0) _ rfl hX9 Tryz.underlying26 rfl vlInfo) rfl ⟨rfl,hB9.bl HB0.o.drew (by omega)⟩
theorem budoes_any(x:Bd)(vs:List Vl×Int)(W:World)(v sv:Value)(hv:ReadsD W x v)(hsv:∃a n c,sv= .slice a n c)(hfew:vs.2=0->vs.1.length<=1000000)(hI:vs.2=0->∀y∈vs.1,I64 y.2.1)
  (hvs:∀(W':World),Bl W W'->Calls Tryz.prog 96 #[v,sv] W' (ManyV W'.heap.size vs W')):
  Calls Tryz.prog 74 #[v,sv] W fun e w'=>e=resV (if vs.2≠0 then(zVl,vs.2) else doO x.o vs.1)/\Bl W w':=by
 obtain⟨ra,rn,rc,rfl⟩:=hsv;have HVS:=aB hvs;clear hvs;obtain⟨sl,rfl,hR⟩:=hv;obtain⟨a,cap,rfl,-⟩:=hR.shape;clear hR;obtain⟨k,t,⟨v1,v2,v3⟩,p,o,n,args⟩:=x;simp only[Bd.k,Bd.t,Bd.v,Bd.p,Bd.o,Bd.n,Bd.args] at *;have HX0:=aB (keep_b (aN W (.cells (cellsB k t v1 v2 v3 p o n (.slice a args.length cap)) 73)) ((Bl.refl _).alloc (.cells #[.int .i64 0,.int .i64 0,S []] 26)));have HR0:=aB (aV (W.alloc (.cells (cellsB k t v1 v2 v3 p o n (.slice a args.length cap)) 73)) (.cells #[.int .i64 0,.int .i64 0,S []] 26) (k:=W.heap.size+1) (by simp));have HB0:=aB (((Bl.refl W).alloc (.cells (cellsB k t v1 v2 v3 p o n (.slice a args.length cap)) 73)).alloc (.cells #[.int .i64 0,.int .i64 0,S []] 26));obtain⟨l,c⟩:=vs;simp only at hfew hI HVS⊢;obtain⟨Z,HZ⟩:∃Z,Hid ((if c≠0 then(zVl,c) else doO o l)=Z):=⟨_,rfl⟩
 rw[HZ.o];have HDO:Hid (c=0->∀(w:World) (va:Option Addr) (vc:Nat),ReadsVl (fun _=>True) w (.slice va l.length vc) l->Calls Tryz.prog 95 #[.int .i64 o,.slice va l.length vc] w fun e w'=>e= .returned (.tuple #[VlV (doO o l).1,.int .i64 (doO o l).2])/\Bl w w'):=fun h w va vc hr=>sDo_any o l va vc (hfew h) (hI h) w hr;clear hfew hI;go_enter Tryz.func74,Tryz.ntmps74;go_wp2_with fail;refine(bM (fun B=>B.heap[W.heap.size]?=some (.cells (cellsB k t v1 v2 v3 p o n (.slice a args.length cap)) 73 (0,0))) ((.take 0 (.take 1 (.take 2 (.take 3 (.take 4 (.one 5 (.one 6 (.take 7 (.take 8 (.one 9 (.one 10 .done)))))))))))) (by kernel_rfl) (by kernel_rfl) (by kernel_rfl) (fun c a d v w h=>by cases d<;>exact h) (HX0.o) ?_);intro wd HWD hY;iterate 5 (refine aI rfl (by rfl) (by intro w hSw;(try dsimp only at hSw);obtain⟨f0,f1,f2,f3,f4,f5,f6,f7,f8⟩:=nine hSw;go_simp;(try(first |with_reducible rfl|rfl))) ?_;(try simp only[aK,aA,aD,aF]))
 refine aL rfl (fun K hK=>?_);go_simp;(refine(HVS.o _ (HB0.o.call HWD.o)).mono ?_;rintro e w3 ⟨hcase,hb3⟩;have HB3:=aB ((HB0.o.call HWD.o).call hb3);have HR3:=aB (keep_b HR0.o (HWD.o.call hb3));rcases hcase with⟨h0,v,rfl,hvv⟩|⟨hc,rfl⟩;rotate_left;(· have HC:=aB hc;clear hc;go_wp2;exact⟨rfl,by rw[<-HZ.o];rw[if_pos HC.o,resV_bad HC.o],HB3.o⟩);simp only at h0;subst h0;obtain⟨va,vc,rfl,-⟩:=id hvv;have HVV:=aB (ReadsVl.keep (aH _) (r:=fun _=>True) (fun _ _=>trivial) (fun _ _ _=>rfl) hvv);clear hvv);go_wp2_with fail;refine hK.o _ _ ((by first |exact keep_b hY hb3|exact keep_b hY hb4|exact keep_b hY hb5|exact(hB9.same _ (by omega)).trans hY)) ?_;clear hY hK K;intro hY;refine aL rfl (fun K hK=>?_);go_simp;(refine(HDO.o (by trivial) _ va vc HVV.o).mono ?_;rintro e w4 ⟨rfl,hb4⟩;have HB4:=aB (HB3.o.call hb4);have HR4:=aB (keep_b HR3.o hb4));go_wp2_with fail;refine hK.o _ _ ((by first |exact keep_b hY hb3|exact keep_b hY hb4|exact keep_b hY hb5|exact(hB9.same _ (by omega)).trans hY)) ?_;clear hY hK K;intro hY;iterate 2 (refine aI rfl (by rfl) (by intro w hSw;(try dsimp only at hSw);obtain⟨f0,f1,f2,f3,f4,f5,f6,f7,f8⟩:=nine hSw;go_simp;(try(first |with_reducible rfl|rfl))) ?_;(try simp only[aK,aA,aD,aF]))
 refine aL rfl (fun K hK=>?_);go_simp;(refine(bgotV_any (doO o l).1 (doO o l).2 _).mono ?_;rintro e w5 ⟨he,hb5⟩;have HB5:=aB (HB4.o.call hb5);have HR5:=aB (keep_b HR4.o hb5);rcases resV_ways (doO o l).1 (doO o l).2 with⟨hc,h⟩|⟨hc,h⟩<;>(rw[h] at he;subst he;have HH:=aB h;clear h hc);rotate_left;(· go_wp2;exact⟨rfl,by rw[<-HZ.o];exact HH.o.symm,HB5.o⟩));go_wp2_with fail;refine hK.o _ _ ((by first |exact keep_b hY hb3|exact keep_b hY hb4|exact keep_b hY hb5|exact(hB9.same _ (by omega)).trans hY)) ?_;clear hY hK K;intro hY;refine aL rfl (fun K hK=>?_);rw[if_pos (by rfl)];refine bC rfl rfl rfl (cells3 (doO o l).1) HR5.o rfl rfl vlInfo rfl ?_;intro w9 hB9 hX9;refine hK.o _ _ ((by first |exact keep_b hY hB93|exact keep_b hY hB94|exact keep_b hY hB95|exact(hB9.same _ (by omega)).trans hY)) ?_;clear hY hK K;intro hY;(try simp only[aK])
 refine fO ?_;go_wp2;exact bodyPost_ret (v:=VlV (doO o l).1) (results_cell_row (p:=4) (ty:=26) rfl _ _ (W.heap.size+1) 26 _ (0,0) _ rfl hX9 Tryz.underlying26 rfl vlInfo) rfl ⟨by rw[<-HZ.o];exact HH.o.symm,hB9.bl HB5.o (by omega)⟩
theorem first_drop{l:List Vl}{j:Nat}(hj:j<l.length):firstV (l.drop j)=if l[j].1≠0 then l[j] else firstV (l.drop (j+1)):=by
 rw[aZ hj];rfl
theorem bufirst_any(x:Bd)(vs:List Vl×Int)(W:World)(v sv:Value)(hv:ReadsD W x v)(hsv:∃a n c,sv= .slice a n c)(hfew:vs.2=0->vs.1.length<=1000000)
  (hvs:∀(W':World),Bl W W'->Calls Tryz.prog 96 #[v,sv] W' (ManyV W'.heap.size vs W')):
  Calls Tryz.prog 76 #[v,sv] W fun e w'=>e=resV (if vs.2≠0 then(zVl,vs.2) else(firstV vs.1,0))/\Bl W w':=by
 obtain⟨ra,rn,rc,rfl⟩:=hsv;have HVS:=aB hvs;clear hvs;obtain⟨sl,rfl,hR⟩:=hv;obtain⟨a,cap,rfl,-⟩:=hR.shape;clear hR;obtain⟨k,t,⟨v1,v2,v3⟩,p,o,n,args⟩:=x;simp only[Bd.k,Bd.t,Bd.v,Bd.p,Bd.o,Bd.n,Bd.args] at *;have HX0:=aB (keep_b (aN W (.cells (cellsB k t v1 v2 v3 p o n (.slice a args.length cap)) 73)) ((Bl.refl _).alloc (.cells #[.int .i64 0,.int .i64 0,S []] 26)));have HR0:=aB (aV (W.alloc (.cells (cellsB k t v1 v2 v3 p o n (.slice a args.length cap)) 73)) (.cells #[.int .i64 0,.int .i64 0,S []] 26) (k:=W.heap.size+1) (by simp));have HB0:=aB (((Bl.refl W).alloc (.cells (cellsB k t v1 v2 v3 p o n (.slice a args.length cap)) 73)).alloc (.cells #[.int .i64 0,.int .i64 0,S []] 26));obtain⟨l,c⟩:=vs;simp only at hfew HVS⊢;obtain⟨Z,HZ⟩:∃Z,Hid ((if c≠0 then(zVl,c) else(firstV l,0))=Z):=⟨_,rfl⟩
 rw[HZ.o];generalize args.length=m at *;go_enter Tryz.func76,Tryz.ntmps76;go_wp2_with fail;refine(HVS.o _ HB0.o).mono ?_;rintro e w1 ⟨⟨h0,v,rfl,hvv⟩|⟨hc,rfl⟩,hb1⟩
 case inr=>
  have HCC:=aB hc;clear hc;go_wp2;exact⟨rfl,by rw[<-HZ.o];rw[if_pos HCC.o,resV_bad HCC.o],HB0.o.call hb1⟩
 simp only at h0;subst h0;obtain⟨va,vc,rfl,hcs⟩:=hvv;have HC:=aB hcs;have hfew2:=hfew rfl;have HB1:=aB (HB0.o.call hb1);have HR1:=aB (keep_b HR0.o hb1);have HZ2:=aB (show(firstV l,0)=Z from HZ.o);clear hcs hfew hb1 HZ;go_wp2_with fail;go_loopw [11] (fun i wr=>∃j:Nat,j<=l.length/\i= .int .i64 (j:Int)/\Hid (firstV (l.drop j)=firstV l)/\Hid (Bl w1 wr)) (fun i _=>l.length-(intOf i).toNat)
 case atStart=>exact⟨0,dL _,rfl,rfl,Bl.refl _⟩
 case round=>
  obtain⟨j,hj,rfl,HD,HB⟩:=hrel;by_cases hlt:j<l.length
  ·obtain⟨b,off,rfl,-,hbl,h3⟩:=HC.o j _ (aP hlt);have HDj:=aB (first_drop hlt);obtain⟨e0,e1,e2⟩:=(h3.keep (HB.o.block b hbl)).three;have hlt':(j:Int)<(l.length:Int):=(by omega);clear h3;generalize l[j]=y at *;obtain⟨y1,y2,y3⟩:=y;simp only at e0 e1 e2 HDj;by_cases hy:y1=0
   ·subst hy;have HN:=aB (show firstV (l.drop (j+1))=firstV l from by rw[<-HD.o,HDj.o];rfl);have HB2:=aB (HB.o.alloc (.cells #[.int .i64 0,.int .i64 y2,S y3] 26));go_wp2;go_roundw
    case rel=>exact⟨j+1,by omega,by go_num,HN.o,HB2.o⟩
    case measure=>simp[intOf];omega
   ·have g1:(y1 != 0)=true:=by simpa using hy
    have HN:=aB (show Z=((y1,y2,y3),0) from by rw[<-HZ2.o,<-HD.o,HDj.o,if_pos hy]);have HR2:=aB (keep_b HR1.o (HB.o.alloc (.cells #[.int .i64 y1,.int .i64 y2,S y3] 26)));have HB2:=aB ((HB1.o.call HB.o).alloc (.cells #[.int .i64 y1,.int .i64 y2,S y3] 26));clear hy;go_wp2_with (refine bA rfl rfl rfl rfl (cells3 (y1,y2,y3)) HR2.o rfl rfl vlInfo rfl ?_)
    intro w9 hB9 hX9;go_wp2;exact bodyPost_ret (v:=VlV (y1,y2,y3)) (results_cell_row (p:=4) (ty:=26) rfl _ _ (W.heap.size+1) 26 _ (0,0) _ rfl hX9 Tryz.underlying26 rfl vlInfo) rfl ⟨by rw[HN.o];rfl,hB9.bl HB2.o (by omega)⟩
  ·obtain rfl:j=l.length:=by omega
   have HN:=aB (show Z=(zVl,0) from by rw[<-HZ2.o,<-HD.o,dO];rfl);have hge:¬((l.length:Int)<(l.length:Int)):=(by omega);have HR2:=aB (keep_b HR1.o HB.o);go_wp2_with (refine bA rfl rfl rfl rfl (cells3 zVl) HR2.o rfl rfl vlInfo rfl ?_)
   intro w9 hB9 hX9;go_wp2;exact bodyPost_ret (v:=VlV zVl) (results_cell_row (p:=4) (ty:=26) rfl _ _ (W.heap.size+1) 26 _ (0,0) _ rfl hX9 Tryz.underlying26 rfl vlInfo) rfl ⟨by rw[HN.o];rfl,hB9.bl (HB1.o.call HB.o) (by omega)⟩
end
section
def OwnV(base:Nat)(r:List Vl×Int)(W:World)(e:Ending)(w':World):Prop:=
 (r.2=0/\(∃v,e= .returned v/\w'.ownsRow base 26 3 v r.1.length (r.1.flatMap cells3))\/r.2≠0/\e=panE r.2)/\Bl W w'
theorem busums1_any{y:Bd}{r:Vl×Int}{k t v1 v2 p o:Int}{v3 n:List UInt8}{b9 off:Nat}{m cap:Nat}{W:World}{bx:Nat}{ra:Option Addr}{rn rc:Nat}(hx:W.heap[bx]?=some (.cells (cellsB k t v1 v2 v3 p o n (.slice (some ⟨b9,off,none⟩) (m+1) cap)) 73 (0,0)))
  (ya:Option Addr) (yc:Nat) (h9:d2k W b9 off (cells9 y (.slice ya y.args.length yc))) (hb9:b9<W.heap.size)
  (hw:∀(W':World),Bl W W'->W'.heap[W.heap.size+1]?=some (.cells #[.slice ra rn rc] 36 (0,0))->Calls Tryz.prog 28 #[BdV y.k y.t y.v y.p y.o y.n (.slice ya y.args.length yc),.slice (some ⟨W.heap.size+1,0,none⟩) 1 1] W' fun e w'=>e=resV r/\Bl W' w'):
  Calls Tryz.prog 98 #[.slice ra rn rc,.pointer (some ⟨bx,0,none⟩)] W fun e w'=>e=resV r/\Bl W w':=by
 have HW:=aB hw;have HX0:=aB (keep_b hx ((Bl.refl W).alloc (.cells #[.int .i64 0,.int .i64 0,S []] 26)));obtain⟨e0,e1,e2,e3,e4,e5,e6,e7,e8⟩:=(h9.keep (((Bl.refl W).alloc (.cells #[.int .i64 0,.int .i64 0,S []] 26)).block b9 hb9)).nine;have HR0:=aB (aN W (.cells #[.int .i64 0,.int .i64 0,S []] 26));have HB0:=aB ((Bl.refl W).alloc (.cells #[.int .i64 0,.int .i64 0,S []] 26));obtain⟨f0,f1,f2,f3,f4,f5,f6,f7,f8⟩:=nine HX0.o;clear hw h9;obtain⟨k',t',⟨v1',v2',v3'⟩,p',o',nm',args'⟩:=y;simp only[Bd.k,Bd.t,Bd.v,Bd.p,Bd.o,Bd.n,Bd.args] at *;generalize args'.length=q at *;have hm1:(0:Int)<(m:Int)+1:=(by omega);obtain⟨rv,c⟩:=r;have HN:=aB (aV (W.alloc (.cells #[.int .i64 0,.int .i64 0,S []] 26)) (.cells #[.slice ra rn rc] 36) (k:=W.heap.size+1) (by simp));have HCL:=aB (HW.o _ (HB0.o.alloc (.cells #[.slice ra rn rc] 36)) HN.o);clear HW;rcases resV_ways rv c with⟨hc,h⟩|⟨hc,h⟩
 ·rw[h] at HCL⊢;clear h hc;go_enter Tryz.func98,Tryz.ntmps98;go_wp2_with fail;refine HCL.o.mono ?_;rintro e w1 ⟨rfl,hb1⟩;go_wp2_with (refine bA rfl rfl rfl rfl (cells3 rv) (keep_b (keep_b HR0.o ((Bl.refl _).alloc _)) hb1) rfl rfl vlInfo rfl ?_)
  intro w9 hB9 hX9;go_wp2;exact bodyPost_ret (v:=VlV rv) (results_cell_row (p:=3) (ty:=26) rfl _ _ W.heap.size 26 _ (0,0) _ rfl hX9 Tryz.underlying26 rfl vlInfo) rfl ⟨rfl,hB9.bl ((HB0.o.alloc _).call hb1) (aH _)⟩
 ·rw[h] at HCL⊢;clear h hc;go_enter Tryz.func98,Tryz.ntmps98;go_wp2_with fail;refine HCL.o.mono ?_;rintro e w1 ⟨rfl,hb1⟩;go_wp2;exact⟨rfl,rfl,(HB0.o.alloc _).call hb1⟩
theorem enters_busums1(args:Array Value)(w:World):(callFunc 98 args).run Tryz.prog w= .ok (.enter 98 args) w:=by simp[go_sem]
theorem bsomeR_any{l:List (List Vl)}{f:List Vl->Vl×Int}{a:Option Addr}{cap bx:Nat}(hfew:l.length<=1000000)(W:World)(hR:ReadsRw (fun _=>True) W (.slice a l.length cap) l)
  (hf:∀r∈l,∀(W':World) (s:Value),Bl W W'->ReadsVl (fun _=>True) W' s r->Calls Tryz.prog 98 #[s,.pointer (some ⟨bx,0,none⟩)] W' fun e w'=>e=resV (f r)/\Bl W' w'):
  Calls Tryz.prog 97 #[.slice a l.length cap,.func (.func 98) #[] #[.pointer (some ⟨bx,0,none⟩)]] W (OwnV W.heap.size (seqV (l.map f)) W):=by
 obtain⟨a',cap',e,hc⟩:=hR;obtain⟨rfl,rfl⟩:a=a'/\cap=cap':=(by simpa using e);have HC:=aB hc;have hen:=enters_busums1;have HF1:=aB hf;have hlf:(l.map f).length=l.length:=(by simp);obtain⟨R,HR⟩:∃R,Hid (seqV (l.map f)=R):=⟨_,rfl⟩
 rw[HR.o];clear hc e hf;go_enter Tryz.func97,Tryz.ntmps97;go_wp2_with fail;go_loopw [4,9] (fun ts i wr=>∃(j:Nat) (v0:Value),v0=ts/\j<=l.length/\i= .int .i64 (j:Int)/\Hid (wr.ownsRow W.heap.size 26 3 v0 j (((l.map fun y=>(f y).1).take j).flatMap cells3))/\Hid (∀y∈(l.map f).take j,y.2=0)/\Hid (Bl W wr)) (fun _ i _=>l.length-(intOf i).toNat)
 case atStart=>exact⟨0,_,rfl,dL _,rfl,d2l _ _ _ _,fun y hy=>by simp at hy,Bl.refl W⟩
 case round=>
  obtain⟨j,v0,rfl,hj,rfl,HO,HOK,HB⟩:=hrel;by_cases hlt:j<l.length
  ·obtain⟨b,off,s,rfl,-,hbl,h9,hr⟩:=HC.o j _ (aP hlt);have HM:=aB (dS hlt);have HJ:=aB (show(l.map f)[j]'(by simpa using hlt)=f l[j] from by simp);have HSN:=aB (show((l.map fun y=>(f y).1).take (j+1)).flatMap cells3=((l.map fun y=>(f y).1).take j).flatMap cells3++cells3 (f l[j]).1 from by
    rw[takeD_snoc (l.map fun y=>(f y).1) (by simpa using hlt),List.flatMap_append,List.getElem_map];simp)
   have HBAD:=aB (fun h=>seq_bad (l:=l.map f) (j:=j) (by simpa using hlt) HOK.o h);have HGO:=aB (fun(h:(f l[j]).2=0)=>(show ∀y∈(l.map f).take (j+1),y.2=0 from fun y hy=>by
    rw[takeD_snoc (l.map f) (by simpa using hlt)] at hy;rcases iX.1 hy with hy|hy
    ·exact HOK.o y hy
    ·rw[gQ.1 hy,List.getElem_map];exact h))
   rw[HJ.o,HR.o] at HBAD;have HRR:=aB (hr.bl HB.o);have e0:=Bl.cell HB.o h9;have HFY:=aB (HF1.o _ HM.o);clear h9 HJ HM;generalize hy:l[j]=y at *;clear hy;generalize f y=ry at *;obtain⟨⟨r1,r2,r3⟩,c⟩:=ry;have HCL:=aB (HFY.o _ s HB.o HRR.o);obtain⟨sa,sc,rfl,-⟩:=hr;have hlt':(j:Int)<(l.length:Int):=(by omega);rcases resV_ways (r1,r2,r3) c with⟨hc,h⟩|⟨hc,h⟩
   ·rw[h] at HCL;have HG2:=aB (HGO.o hc);clear h hc HGO HBAD HFY HRR;go_wp2_with fail;refine HCL.o.mono ?_;rintro e w1 ⟨rfl,hb1⟩;have HB1:=aB (HB.o.call hb1);have HO1:=aB (gY (hb1.alloc (.cells #[.int .i64 r1,.int .i64 r2,S r3] 26)) HO.o);have HN1:=aB (aN w1 (.cells #[.int .i64 r1,.int .i64 r2,S r3] 26));have hz1:W.heap.size<=(w1.alloc (.cells #[.int .i64 r1,.int .i64 r2,S r3] 26)).heap.size:=by
     have:=HB1.o.size;simp;omega
    clear hb1 e0 HCL;go_wp2_with (at_builtin;refine wpList_append_row rfl (.tmp 13) (.tmp 17) rfl vlFull Tryz.underlying36 rfl (by decide) (by decide) W.heap.size _ j _ rfl HO1.o w1.heap.size [.int .i64 r1,.int .i64 r2,S r3] rfl HN1.o rfl rfl (by omega) hz1 ?_)
    intro v' w2 hown2 hg2 _;have hlow:=HO1.o.lt;have HB2:=aB (iL (HB1.o.alloc (.cells #[.int .i64 r1,.int .i64 r2,S r3] 26)) hg2 hz1 (fun i hi=>(hlow i hi).1));have HO2:=aB hown2;clear hown2 hg2 hlow;go_wp2;go_roundw
    case rel=>exact⟨j+1,_,rfl,by omega,by go_num,by rw[HSN.o];exact HO2.o,HG2.o,HB2.o⟩
    case measure=>simp[intOf];omega
   ·rw[h] at HCL;have HR2:=aB (show R=([],c) from HBAD.o hc);have HCC:=aB hc;clear h hc HGO HBAD HFY HRR;go_wp2_with fail;refine HCL.o.mono ?_;rintro e w1 ⟨rfl,hb1⟩;go_wp2;exact⟨rfl,.inr ⟨by rw[HR2.o];exact HCC.o,by rw[HR2.o]⟩,HB.o.call hb1⟩
  ·obtain rfl:j=l.length:=by omega
   have HAL:=aB (show ∀y∈l.map f,y.2=0 from fun y hy=>HOK.o y (by rw[jS (by simp)];exact hy));have HR2:=aB (show R=(l.map fun y=>(f y).1,0) from(HR.o.symm.trans (seq_ok HAL.o)).trans (by rw[List.map_map];rfl));have HV:Hid (wr.ownsRow W.heap.size 26 3 v0 (l.map fun y=>(f y).1).length ((l.map fun y=>(f y).1).flatMap cells3)):=by
    have h:=HO.o;rw[jS (by simp)] at h;rw[mD];exact h
   have hge:¬((l.length:Int)<(l.length:Int)):=(by omega);clear HO HOK HAL HC HF1;go_wp2;go_ret;exact⟨.inl ⟨by rw[HR2.o],_,rfl,by rw[HR2.o];exact HV.o⟩,HB.o⟩
end
section
def idxV(pr:Vl->Bool):Nat->List Vl->Int
 |_,[]=> -1
 |i,v::r=>if pr v then(i:Int) else idxV pr (i+1) r
theorem idx_drop{pr:Vl->Bool}{l:List Vl}{j:Nat}(hj:j<l.length):idxV pr j (l.drop j)=if pr l[j] then(j:Int) else idxV pr (j+1) (l.drop (j+1)):=by
 rw[aZ hj];rfl
theorem idx_any(pr:Vl->Bool):∀(l:List Vl) (i:Nat),decide (0<=idxV pr i l)=l.any pr
 |[],i=>rfl
 |v::r,i=>by
  rw[kC,decide_eq_true_eq,List.any_cons];by_cases hv:pr v=true
  ·have e:idxV pr i (v::r)=(i:Int):=by simp only[idxV];rw[if_pos hv]
   rw[e,hv,Bool.true_or];simp
  ·have e:idxV pr i (v::r)=idxV pr (i+1) r:=by simp only[idxV];rw[if_neg hv]
   rw[e,Bool.eq_false_iff.2 hv,Bool.false_or,<-idx_any pr r (i+1),decide_eq_true_eq]
theorem idx_at(pr:Vl->Bool):∀(l:List Vl) (i:Nat),(idxV pr i l= -1/\∀x∈l,pr x=false)\/∃k,∃h:k<l.length,idxV pr i l=((i+k:Nat):Int)/\pr l[k]=true/\∀x∈l.take k,pr x=false
 |[],i=> .inl ⟨rfl,fun x hx=>by cases hx⟩
 |v::r,i=>by
  simp only[idxV];by_cases hv0:pr v=true
  ·rw[if_pos hv0];exact .inr ⟨0,by simp,by simp,by simpa using hv0,fun x hx=>by simp at hx⟩
  ·have hv:=Bool.eq_false_iff.2 hv0;rw[if_neg hv0];rcases idx_at pr r (i+1) with⟨h1,h2⟩|⟨k,hk,h1,h2,h3⟩
   ·refine .inl ⟨h1,fun x hx=>?_⟩;rcases dD.1 hx with rfl|hx
    ·exact hv
    ·exact h2 x hx
   ·refine .inr ⟨k+1,by simpa using hk,?_,by simpa using h2,fun x hx=>?_⟩
    ·rw[h1]
     congr 1
     omega
    ·rw[List.take_succ_cons] at hx;rcases dD.1 hx with rfl|hx
     ·exact hv
     ·exact h3 x hx
theorem vIndex_any{W:World}{a:Option Addr}{cap:Nat}{l:List Vl}{p:Nat->Prop}{g:FuncId}{pr:Vl->Bool}(hlen:l.length<=1000000)(hen:∀(args:Array Value) (w:World),(callFunc g args).run Tryz.prog w= .ok (.enter g args) w)(hR:ReadsVl p W (.slice a l.length cap) l)
  (hf:∀(y:Vl) (W':World),Bl W W'->Calls Tryz.prog g #[VlV y] W' fun e w'=>e= .returned (.bool (pr y))/\Bl W' w'):
  Calls Tryz.prog 63 #[.slice a l.length cap,.func (.func g) #[] #[]] W fun e w'=>e= .returned (.int .i64 (idxV pr 0 l))/\Bl W w':=by
 obtain⟨a',cap',e,hc⟩:=hR.shape;obtain⟨rfl,rfl⟩:a=a'/\cap=cap':=(by simpa using e);obtain⟨R,HR⟩:∃R,Hid (idxV pr 0 l=R):=⟨_,rfl⟩
 rw[HR.o];have HC:=aB hc;have HF:=aB hf;clear hR hc hf e;go_enter Tryz.func63,Tryz.ntmps63;go_wp2_with fail;go_loopw [8] (fun i wr=>∃j:Nat,j<=l.length/\i= .int .i64 (j:Int)/\Hid (R=idxV pr j (l.drop j))/\Hid (Bl W wr)) (fun i _=>l.length-(intOf i).toNat)
 case atStart=>exact⟨0,dL _,rfl,HR.o.symm,Bl.refl W⟩
 case round=>
  obtain⟨j,hj,rfl,HD,HB⟩:=hrel;by_cases hlt:j<l.length
  ·obtain⟨b,off,rfl,-,hbl,h3⟩:=HC.o j hlt;have HDj:=aB (HD.o.trans (idx_drop hlt));obtain⟨e0,e1,e2⟩:=(h3.keep (HB.o.block b hbl)).three;have hlt':(j:Int)<(l.length:Int):=(by omega);clear h3;generalize l[j]=y at *;obtain⟨y1,y2,y3⟩:=y;simp only at e0 e1 e2;go_wp2_with fail;refine(HF.o (y1,y2,y3) _ HB.o).mono ?_;rintro e w1 ⟨rfl,hb1⟩;have HB1:=aB (HB.o.call hb1);clear hb1 e0 e1 e2;cases hs:pr (y1,y2,y3)
   ·have HN:=aB (show R=idxV pr (j+1) (l.drop (j+1)) from by rw[HDj.o,hs];rfl);clear hs;go_wp2;go_roundw
    case rel=>exact⟨j+1,by omega,by go_num,HN.o,HB1.o⟩
    case measure=>simp[intOf];omega
   ·have HN:=aB (show R=(j:Int) from by rw[HDj.o,hs];rfl);clear hs;go_wp2;go_ret;exact⟨by rw[HN.o];rfl,HB1.o⟩
  ·obtain rfl:j=l.length:=by omega
   have HN:=aB (show R= -1 from by rw[HD.o,dO];rfl);have hge:¬((l.length:Int)<(l.length:Int)):=(by omega);go_wp2;go_ret;exact⟨by rw[HN.o];rfl,HB.o⟩
theorem vContains_any{W:World}{a:Option Addr}{cap:Nat}{l:List Vl}{p:Nat->Prop}{g:FuncId}{pr:Vl->Bool}(hlen:l.length<=1000000)(hen:∀(args:Array Value) (w:World),(callFunc g args).run Tryz.prog w= .ok (.enter g args) w)(hR:ReadsVl p W (.slice a l.length cap) l)
  (hf:∀(y:Vl) (W':World),Bl W W'->Calls Tryz.prog g #[VlV y] W' fun e w'=>e= .returned (.bool (pr y))/\Bl W' w'):
  Calls Tryz.prog 43 #[.slice a l.length cap,.func (.func g) #[] #[]] W fun e w'=>e= .returned (.bool (l.any pr))/\Bl W w':=by
 have H1:=aB (vIndex_any hlen hen hR hf);have HZ:=aB (idx_any pr l 0);generalize l.any pr=R at *;generalize idxV pr 0 l=z at *;generalize l.length=m at *;clear hR hf hlen hen;go_enter Tryz.func43,Tryz.ntmps43;go_wp2_with fail;refine H1.o.mono ?_;rintro e w1 ⟨rfl,hb1⟩;go_wp2;go_ret;exact⟨by rw[<-HZ.o];rfl,hb1⟩
theorem bright1_any(y:Vl)(w:World):Calls Tryz.prog 44 #[VlV y] w fun e w'=>e= .returned (.bool (!okVl y))/\Bl w w':=by
 obtain⟨v1,v2,v3⟩:=y;go_enter Tryz.func44,Tryz.ntmps44;go_wp2_with fail;refine(b7z v1 v2 v3 _).mono ?_;rintro e w1 ⟨rfl,hb1⟩;go_wp2;go_ret;exact⟨rfl,((Bl.refl w).alloc _).call hb1⟩
theorem enters_bright1(args:Array Value)(w:World):(callFunc 44 args).run Tryz.prog w= .ok (.enter 44 args) w:=by simp[go_sem]
theorem busums2_any(y:Vl)(w:World):Calls Tryz.prog 100 #[VlV y] w fun e w'=>e= .returned (.bool (y.1==0))/\Bl w w':=by
 obtain⟨v1,v2,v3⟩:=y;go_enter Tryz.func100,Tryz.ntmps100;go_wp2;go_ret;exact⟨rfl,(Bl.refl w).alloc _⟩
theorem enters_busums2(args:Array Value)(w:World):(callFunc 100 args).run Tryz.prog w= .ok (.enter 100 args) w:=by simp[go_sem]
theorem busums3_any(y:Vl)(w:World):Calls Tryz.prog 101 #[VlV y] w fun e w'=>e= .returned (.bool (y.1 != 2))/\Bl w w':=by
 obtain⟨v1,v2,v3⟩:=y;go_enter Tryz.func101,Tryz.ntmps101;go_wp2;go_ret;exact⟨rfl,(Bl.refl w).alloc _⟩
theorem enters_busums3(args:Array Value)(w:World):(callFunc 101 args).run Tryz.prog w= .ok (.enter 101 args) w:=by simp[go_sem]
theorem rowB_any:∀l:List Vl,(l.any fun y=> !okVl y)= !rowB l
 |[]=>rfl
 |x::r=>by
  have ih:=rowB_any r;unfold rowB at ih⊢;rw[List.any_cons,List.all_cons,ih,Bool.not_and]
theorem bright_any{W:World}{a:Option Addr}{cap:Nat}{l:List Vl}{p:Nat->Prop}(hlen:l.length<=1000000)(hR:ReadsVl p W (.slice a l.length cap) l):
  Calls Tryz.prog 26 #[.slice a l.length cap] W fun e w'=>(rowB l=true/\e= .returned (.tuple #[])\/rowB l=false/\e=panE 2)/\Bl W w':=by
 have H1:=aB (vContains_any (pr:=fun y=> !okVl y) hlen enters_bright1 hR fun y W' _=>bright1_any y W');have HZ:=aB (rowB_any l);rw[HZ.o] at H1;generalize rowB l=R at *;generalize l.length=m at *;clear hR hlen HZ;cases R
 ·go_enter Tryz.func26,Tryz.ntmps26;go_wp2_with fail;refine H1.o.mono ?_;rintro e w1 ⟨rfl,hb1⟩;go_wp2_with fail
  (with_reducible refine(bmust_no _ _).mono ?_)
  rintro e w2 ⟨rfl,rfl⟩;go_wp2;exact⟨rfl,.inr ⟨by trivial,rfl⟩,hb1⟩
 ·go_enter Tryz.func26,Tryz.ntmps26;go_wp2_with fail;refine H1.o.mono ?_;rintro e w1 ⟨rfl,hb1⟩;go_wp2_with fail
  (with_reducible refine(bmust_yes _ _).mono ?_)
  rintro e w2 ⟨rfl,rfl⟩;go_wp2;go_end0;exact⟨.inl ⟨by trivial,rfl⟩,hb1⟩
end
section
section
variable {P:Program}
theorem zeroCells_len(z:Array Value)(n:Nat):(Builtin.zeroCells z n).toList.length=n * z.size:=by
 simp[Builtin.zeroCells]
theorem wpList_clear_row{ops:Array Oper}{rest:List Oper}{o:Oper}{a:Act}{w:World}{Q:Exit->Act->World->Prop}(hgd:o.guard=none)(x:Operand){TS T:TypeId}(ho:o.op= .call {callee:= .builtin .clear,args:= #[x],argTypes:= #[TS]}){N:Nat}{Z:Value}
  (hT:∀w,(zeroValue T).run P w= .ok Z w) (hu:P.underlying TS=some (.slice T)) (hZ:Z.cells.size=N) {g i n c:Nat} (h1:∀u∈(Builtin.zeroCells Z.cells n).toList,u.oneCell'=true) (hx:a.eval x= .slice (some ⟨g,i,none⟩) n c) (hn:0<n) {t:TypeId} {old:List Value}
  (hb:w.heap[g]?=some (.cells old.toArray t (0,0))) (hl:i+n * N<=old.length)
  (h:∀(w':World) (new:List Value),But g w w'->w'.heap[g]?=some (.cells new.toArray t (0,0))->new.length=old.length->new.take i=old.take i->wpList P ops Q rest (a.put o.dst (.tuple #[])) w'):wpList P ops Q (o::rest) a w:=by
 have hlen:=zeroCells_len Z.cells n;rw[hZ] at hlen;have hs:=run_storeCells_at (P:=P) g i t (Builtin.zeroCells Z.cells n).toList 0 old.toArray w hb (by rw[hlen];simpa using hl) h1;simp only[Nat.add_zero] at hs;have hr:(Builtin.clear_ #[TS] o.type #[.slice (some ⟨g,i,none⟩) n c]).run P w= .ok (.tuple #[]) (w.setRow g (old.take i++(Builtin.zeroCells Z.cells n).toList++old.drop (i+n * N)).toArray):=by
  obtain⟨m,rfl⟩:∃m,n=m+1:=⟨n-1,by omega⟩
  rw[hlen] at hs;simp[Builtin.clear_,run_underlying hu,hT,hs]
 refine wpList_plain hgd fun K hK=>?_;unfold Oper.wp execOp;simp only[ho,resolve,invoke,builtin,Sem.run_bind,Sem.run_pure,Result.andThen_ok,List.map_toArray,kP,qZ,hx,hr];refine hK _ _ (h _ _ (But.row g w _) (setRow_heap w g _ _ t _ hb) ?_ ?_)
 ·rw[bD,bD,List.length_take,List.length_drop,hlen];omega
 ·rw[iK,List.take_append_of_le_length (by rw[List.length_take];omega),List.take_take,Nat.min_self]
end
theorem zeroVl_run(w:World):(zeroValue 26).run Tryz.prog w= .ok (.agg #[.int .i64 0,.int .i64 0,S []]) w:=by kernel_rfl
theorem zeroVl_one(n:Nat):∀u∈(Builtin.zeroCells (Value.agg #[.int .i64 0,.int .i64 0,S []]).cells n).toList,u.oneCell'=true:=by
 intro u hu;have e:(Value.agg #[.int .i64 0,.int .i64 0,S []]).cells= #[.int .i64 0,.int .i64 0,S []]:=rfl;rw[e] at hu;simp only[Builtin.zeroCells,Array.toList_map,List.mem_map] at hu;obtain⟨i,-,rfl⟩:=hu;have h3:i % 3=0\/i % 3=1\/i % 3=2:=(by omega);show(#[Value.int .i64 0,.int .i64 0,S []][i % 3]!).oneCell'=true;rcases h3 with h|h|h<;>rw[h]<;>rfl
theorem filter_take_no{l:List Vl}{p:Vl->Bool}{j:Nat}(hj:j<l.length)(h:p l[j]=false):(l.take (j+1)).filter p=(l.take j).filter p:=by
 rw[takeD_snoc l hj,List.filter_append];simp[h]
theorem filter_take_yes{l:List Vl}{p:Vl->Bool}{j:Nat}(hj:j<l.length)(h:p l[j]=true):(l.take (j+1)).filter p=(l.take j).filter p++[l[j]]:=by
 rw[takeD_snoc l hj,List.filter_append];simp[h]
structure DelR(p:Vl->Bool)(l:List Vl)(g cap k j:Nat)(cur:List Value)(A:World):Prop where
 heap:A.heap[g]?=some (.cells cur.toArray 26 (0,0))
 len:cur.length=cap * 3
 cnt:k=((l.take j).filter p).length
 pre:cur.take (k * 3)=((l.take j).filter p).flatMap cells3
 rest:∀a (h:a<l.length),j<=a->cur[a * 3]?=some (.int .i64 l[a].1)/\cur[a * 3+1]?=some (.int .i64 l[a].2.1)/\cur[a * 3+2]?=some (S l[a].2.2)
 fit:l.length<=cap
theorem DelR.to{p:Vl->Bool}{l:List Vl}{g cap k j:Nat}{cur:List Value}{A B:World}(h:DelR p l g cap k j cur A)(hb:B.heap[g]?=A.heap[g]?):DelR p l g cap k j cur B:=⟨hb.trans h.heap,h.len,h.cnt,h.pre,h.rest,h.fit⟩
theorem DelR.cells{p:Vl->Bool}{l:List Vl}{g cap k j:Nat}{cur:List Value}{A:World}(h:DelR p l g cap k j cur A)(hj:j<l.length):
  A.cell? ⟨g,j * 3,none⟩=some (.int .i64 l[j].1)/\A.cell? ⟨g,j * 3+1,none⟩=some (.int .i64 l[j].2.1)/\A.cell? ⟨g,j * 3+2,none⟩=some (S l[j].2.2):=by
 obtain⟨h0,h1,h2⟩:=h.rest j hj (aH _);exact⟨by rw[aG h.heap];simpa using h0,by rw[aG h.heap];simpa using h1,by rw[aG h.heap];simpa using h2⟩
theorem DelR.skip{p:Vl->Bool}{l:List Vl}{g cap k j:Nat}{cur:List Value}{A:World}(h:DelR p l g cap k j cur A)(hj:j<l.length)(hp:p l[j]=false):DelR p l g cap k (j+1) cur A:=
 ⟨h.heap,h.len,by rw[filter_take_no hj hp];exact h.cnt,by rw[filter_take_no hj hp];exact h.pre,fun a ha hja=>h.rest a ha (by omega),h.fit⟩
theorem DelR.le{p:Vl->Bool}{l:List Vl}{g cap k j:Nat}{cur:List Value}{A:World}(h:DelR p l g cap k j cur A):k<=j:=by
 rw[h.cnt];exact jH (List.length_filter_le _ _) (List.length_take_le _ _)
theorem DelR.keep{p:Vl->Bool}{l:List Vl}{g cap k j:Nat}{cur:List Value}{A B:World}(h:DelR p l g cap k j cur A)(hj:j<l.length)(hp:p l[j]=true)(hb:B.heap[g]?=some (.cells (cur.take (k * 3)++cells3 l[j]++cur.drop (k * 3+3)).toArray 26 (0,0))):DelR p l g cap (k+1) (j+1) (cur.take (k * 3)++cells3 l[j]++cur.drop (k * 3+3)) B:=by
 have hk:=h.le;have hl:=h.len;have hf:=h.fit;have hlt:(cur.take (k * 3)).length=k * 3:=(by rw[List.length_take];omega);have hc3:(cells3 l[j]).length=3:=rfl;refine⟨hb,?_,?_,?_,fun a ha hja=>?_,h.fit⟩
 ·rw[bD,bD,hlt,hc3,List.length_drop];omega
 ·rw[filter_take_yes hj hp,bD,<-h.cnt];rfl
 ·rw[filter_take_yes hj hp,List.flatMap_append,<-h.pre];have e:(k+1) * 3=(cur.take (k * 3)++cells3 l[j]).length:=(by rw[bD,hlt,hc3];omega);rw[e,List.take_left];simp
 ·have e:∀i,(cur.take (k * 3)++cells3 l[j]++cur.drop (k * 3+3))[a * 3+i]?=cur[a * 3+i]?:=fun i=>by
   rw[List.getElem?_append_right (by rw[bD,hlt,hc3];omega),bD,hlt,hc3,iE]
   congr 1
   omega
  obtain⟨h0,h1,h2⟩:=h.rest a ha (by omega);exact⟨(e 0).trans h0,(e 1).trans h1,(e 2).trans h2⟩
theorem bDelete_any{W:World}{base:Nat}{v:Value}{l:List Vl}{g:FuncId}{pr:Vl->Bool}(hlen:l.length<=1000000)(hen:∀(args:Array Value) (w:World),(callFunc g args).run Tryz.prog w= .ok (.enter g args) w)(hbase:base<=W.heap.size)
  (hown:W.ownsRow base 26 3 v l.length (l.flatMap cells3)) (hf:∀(y:Vl) (W':World),Below base W W'->Calls Tryz.prog g #[VlV y] W' fun e w'=>e= .returned (.bool (pr y))/\Bl W' w'):
  Calls Tryz.prog 99 #[v,.func (.func g) #[] #[]] W fun e w'=>(∃v',e= .returned v'/\w'.ownsRow base 26 3 v' (l.filter fun x=> !pr x).length ((l.filter fun x=> !pr x).flatMap cells3))/\Below base W w':=by
 have hrv:=own_vals hown;obtain⟨a,cap,rfl,-⟩:=id hrv;have HI:=aB (vIndex_any hlen hen hrv fun y W' hb=>hf y W' (hb.mono hbase));have HF:=aB hf;have HOW:=aB hown;clear hrv hf;rcases idx_at pr l 0 with⟨hz,hall⟩|⟨k0,hk0,hz,hp0,hpre⟩
 ·rw[hz] at HI;have HFL:=aB (show(l.filter fun x=> !pr x)=l from List.filter_eq_self.2 fun x hx=>by rw[hall x hx];rfl);rw[HFL.o];clear hz hall hown;go_enter Tryz.func99,Tryz.ntmps99;go_wp2_with fail;refine HI.o.mono ?_;rintro e w1 ⟨rfl,hb1⟩;go_wp2;go_ret;exact⟨⟨_,rfl,gY hb1 HOW.o⟩,hb1.mono hbase⟩
 ·rw[hz] at HI;obtain⟨-,h0|⟨g0,cap',cur,e,hg0,hh0,hcap,hmax,hsz,htk⟩⟩:=hown
  ·rw[h0.2] at hk0;cases hk0
  injection e with e1 _ e3;subst e1;subst e3;have HD0:Hid (DelR (fun x=> !pr x) l g0 cap k0 (k0+1) cur.toList W):=by
   have hft:(l.take (k0+1)).filter (fun x=> !pr x)=l.take k0:=by
    rw[filter_take_no hk0 (by rw[hp0];rfl)];exact List.filter_eq_self.2 fun x hx=>by rw[hpre x hx];rfl
   refine⟨by simpa using hh0,by simpa using hsz,?_,?_,fun a ha _=>?_,hcap⟩
   ·rw[hft,List.length_take];omega
   ·rw[hft];have h2:(cur.toList.take (l.length * 3)).take (k0 * 3)=cur.toList.take (k0 * 3):=(by rw[List.take_take];congr 1;omega);rw[<-h2,htk];have h3:l=l.take k0++l.drop k0:=(gF k0 l).symm
    conv=>lhs;rw[h3,List.flatMap_append]
    have h4:k0 * 3=((l.take k0).flatMap cells3).length:=(by rw[flat_len cells3 (N:=3) (fun _=>rfl),List.length_take];congr 1;omega);rw[h4,List.take_left]
   ·have hx:l[a]?=some l[a]:=aP ha;have hq:∀i,i<3->cur.toList[a * 3+i]?=(cells3 l[a])[i]?:=fun i hi=>by
     rw[<-flat_at cells3 (N:=3) (fun _=>rfl) l a i _ hx hi,<-htk,rA,if_pos (by omega)]
    exact⟨hq 0 (by omega),hq 1 (by omega),hq 2 (by omega)⟩
  have HMX:=aB hmax;clear hz hpre hh0 hsz htk hcap hp0 HOW hmax;rw[gD] at HI;have gk0:((k0:Int)== -1)=false:=by
   rw[beq_eq_false_iff_ne];omega
  have hgW:g0<W.heap.size:=(aC.1 HD0.o.heap).1;go_enter Tryz.func99,Tryz.ntmps99;go_wp2_with fail;refine HI.o.mono ?_;rintro e w1 ⟨rfl,hb1⟩;have HD1:=aB (HD0.o.to (hb1.block g0 hgW));have HB1:=aB (show Below base W w1 from hb1.mono hbase);clear hb1;go_wp2_with fail;go_loopw [5,6] (fun i jv wr=>∃(k j:Nat) (cu:List Value),i= .int .i64 (k:Int)/\jv= .int .i64 (j:Int)/\k<j/\j<=l.length/\Hid (DelR (fun x=> !pr x) l g0 cap k j cu wr)/\Hid (Below base W wr)) (fun _ jv _=>l.length-(intOf jv).toNat)
  case atStart=>exact⟨k0,k0+1,_,by simp,by go_num,by omega,by omega,HD1.o,HB1.o⟩
  case round=>
   obtain⟨k,j,cu,rfl,rfl,hkj,hj,HD,HB⟩:=hrel;have hgr:g0<wr.heap.size:=(aC.1 HD.o.heap).1;by_cases hlt:j<l.length
   ·obtain⟨e0,e1,e2⟩:=HD.o.cells hlt;have hlt':(j:Int)<(l.length:Int):=(by omega);have HSK:=aB (fun h=>HD.o.skip hlt h);have HKP:=aB (fun(B:World) h hb=>HD.o.keep (B:=B) hlt h hb);have hkl:(k:Int)<(l.length:Int):=(by omega);have hfit:k * 3+3<=cu.length:=(by have:=HD.o.len;have:=HD.o.fit;omega);generalize l[j]=y at *;obtain⟨y1,y2,y3⟩:=y;simp only at e0 e1 e2;go_wp2_with fail;refine(HF.o (y1,y2,y3) _ (HB.o.alloc (by have:=HB.o.size;omega) (.cells #[.int .i64 y1,.int .i64 y2,S y3] 26))).mono ?_;rintro e w2 ⟨rfl,hb2⟩;have HA2:=aB ((Bl.refl wr).alloc (.cells #[.int .i64 y1,.int .i64 y2,S y3] 26) |>.call hb2);have hx2:=keep_b (aN wr (.cells #[.int .i64 y1,.int .i64 y2,S y3] 26)) hb2;obtain⟨f0,f1,f2⟩:=three3 hx2;have HB2:=aB (HB.o.trans (HA2.o.mono (by have:=HB.o.size;omega)));have HG2:=aB (keep_b HD.o.heap HA2.o);clear hb2 e0 e1 e2;cases hs:pr (y1,y2,y3)
    ·have HKK:=aB (fun(B:World) hb=>HKP.o B (by rw[hs];rfl) hb);clear hs HSK HKP;go_wp2_with (refine bA (g:=g0) (i:=k * 3) rfl rfl rfl rfl (cu.take (k * 3)++cells3 (y1,y2,y3)++cu.drop (k * 3+3)) HG2.o rfl (decide_eq_true hfit) vlInfo rfl ?_)
     intro w3 hB3 hX3;have HB3:=aB (show Below base W w3 from iL HB2.o hB3.grown (by have:=HB2.o.size;omega) (fun i hi=>by injection hi with hi;omega));have HD3:=aB (HKK.o w3 (by rw[iK];exact hX3));clear hX3 hB3;go_wp2;go_roundw
     case rel=>exact⟨k+1,j+1,_,by go_num,by go_num,by omega,by omega,HD3.o,HB3.o⟩
     case measure=>simp[intOf];omega
    ·have HD3:=aB ((HSK.o (by rw[hs];rfl)).to (HA2.o.block g0 hgr));clear hs HSK HKP;go_wp2;go_roundw
     case rel=>exact⟨k,j+1,_,rfl,by go_num,by omega,by omega,HD3.o,HB2.o⟩
     case measure=>simp[intOf];omega
   ·obtain rfl:j=l.length:=by omega
    have hge:¬((l.length:Int)<(l.length:Int)):=(by omega);have hkl:(k:Int)<=(l.length:Int):=(by omega);have hlc:(l.length:Int)<=(cap:Int):=(by have:=HD.o.fit;omega);have hkc:(k:Int)<=(cap:Int):=(by omega);have hk0':(0:Int)<=(k:Int):=(by omega);have HG:=aB HD.o.heap;have hpos:0<l.length-k:=(by omega);have hfit2:k * 3+(l.length-k) * 3<=cu.length:=(by have:=HD.o.len;have:=HD.o.fit;omega);go_wp2_with (refine wpList_clear_row (P:=Tryz.prog) (T:=26) (TS:=36) (N:=3) (Z:= .agg #[.int .i64 0,.int .i64 0,S []]) (g:=g0) (i:=k * 3) (n:=l.length-k) (c:=cap-k) (t:=26) (old:=cu) rfl (.tmp 38) rfl zeroVl_run Tryz.underlying36 rfl (zeroVl_one _) rfl hpos HG.o hfit2 ?_)
    intro w3 new hB3 hX3 hnl hnt;have HB3:=aB (show Below base W w3 from iL HB.o hB3.grown (by have:=HB.o.size;omega) (fun i hi=>by injection hi with hi;omega));have HOW:Hid (w3.ownsRow base 26 3 (.slice (some ⟨g0,0,none⟩) k cap) (l.filter fun x=> !pr x).length ((l.filter fun x=> !pr x).flatMap cells3)):=by
     have hc:=HD.o.cnt;have hp:=HD.o.pre;rw[gJ] at hc hp;refine⟨flat_len cells3 (fun _=>rfl) _,.inr ⟨g0,cap,new.toArray,by rw[hc],hg0,hX3,by rw[<-hc];omega,?_,?_,?_⟩⟩
     ·exact HMX.o
     ·simp only[gG];rw[hnl,HD.o.len]
     ·rw[<-hc,hnt,hp]
    clear hX3 hB3 hnl hnt;go_wp2;go_ret;exact⟨⟨_,rfl,HOW.o⟩,HB3.o⟩
end
section
theorem bits_low(n:Int):bits .and .i64 n 4294967295=n % 4294967296:=by
 have e1:(BitVec.ofInt 64 n&&& BitVec.ofInt 64 4294967295).toNat=(n % 18446744073709551616).toNat % 4294967296:=by
  rw[BitVec.toNat_and,BitVec.toNat_ofInt];exact Nat.and_two_pow_sub_one_eq_mod _ 32
 show IntKind.i64.wrap (((BitVec.ofInt 64 n&&& BitVec.ofInt 64 4294967295).toNat:Nat):Int)=_;rw[e1];simp only[IntKind.wrap,IntKind.bits,IntKind.signed];simp;omega
theorem bits_join{n m:Int}(h0: -2147483648<=n)(h1:n<2147483648)(g0:0<=m)(g1:m<4294967296):bits .or .i64 (n * 4294967296) m=n * 4294967296+m:=by
 have e1:(BitVec.ofInt 64 (n * 4294967296)|||BitVec.ofInt 64 m).toNat=(n % 4294967296).toNat * 4294967296+m.toNat:=by
  rw[BitVec.toNat_or,BitVec.toNat_ofInt,BitVec.toNat_ofInt];have a1:(n * 4294967296 % ((2 ^ 64:Nat):Int)).toNat=(n % 4294967296).toNat<<<32:=by
   rw[Nat.shiftLeft_eq];omega
  have a2:(m % ((2 ^ 64:Nat):Int)).toNat=m.toNat:=(by omega);rw[a1,a2,<-Nat.shiftLeft_add_eq_or_of_lt (show m.toNat<2 ^ 32 by omega),Nat.shiftLeft_eq]
 show IntKind.i64.wrap (((BitVec.ofInt 64 (n * 4294967296)|||BitVec.ofInt 64 m).toNat:Nat):Int)=_;rw[e1];simp only[IntKind.wrap,IntKind.bits,IntKind.signed];simp;omega
theorem total_hi(l:List Vl):fits64 ((l.map fun v=>v.2.1).sum)=(decide (-2147483648<=hiS (l.map fun v=>v.2.1)+loS (l.map fun v=>v.2.1) / 4294967296)&&decide (hiS (l.map fun v=>v.2.1)+loS (l.map fun v=>v.2.1) / 4294967296<2147483648)):=halves_fit _
theorem e3v:(Tryz.prog.info? 2).map (·.size)=some 1:=by kernel_rfl
theorem two2{w:World}{g:Nat}{a b:Value}{t:TypeId}(h:w.heap[g]?=some (.cells #[a,b] t (0,0))):w.cell? ⟨g,0,none⟩=some a/\w.cell? ⟨g,1,none⟩=some b:=⟨by rw[aG h];rfl,by rw[aG h];rfl⟩
theorem btotal_any{W:World}{a:Option Addr}{cap:Nat}{l:List Vl}{p:Nat->Prop}(hlen:l.length<=1000000)(hI:∀y∈l,I64 y.2.1)(hR:ReadsVl p W (.slice a l.length cap) l):
  Calls Tryz.prog 102 #[.slice a l.length cap] W fun e w'=>e=resV (totalV l)/\Bl W w':=by
 obtain⟨a',cap',e,hc⟩:=hR.shape;obtain⟨rfl,rfl⟩:a=a'/\cap=cap':=(by simpa using e);have HC:=aB hc;have HI:=aB hI;obtain⟨R,HR⟩:∃R,Hid (totalV l=R):=⟨_,rfl⟩
 rw[HR.o];have HB0:=aB (((Bl.refl W).alloc (.cells #[.int .i64 0,.int .i64 0,S []] 26)).alloc (.cells #[.int .i64 0,.int .i64 0] 173));have HH0:=aB (aV (W.alloc (.cells #[.int .i64 0,.int .i64 0,S []] 26)) (.cells #[.int .i64 0,.int .i64 0] 173) (k:=W.heap.size+1) (by simp));have HR0:=aB (keep_b (aN W (.cells #[.int .i64 0,.int .i64 0,S []] 26)) ((Bl.refl _).alloc (.cells #[.int .i64 0,.int .i64 0] 173)));clear hR hc e hI;go_enter Tryz.func102,Tryz.ntmps102;go_wp2_with fail;go_loopw [8] (fun i wr=>∃j:Nat,j<=l.length/\i= .int .i64 (j:Int)/\Hid (wr.heap[W.heap.size+1]?=some (.cells #[.int .i64 (hiS ((l.map fun v=>v.2.1).take j)),.int .i64 (loS ((l.map fun v=>v.2.1).take j))] 173 (0,0)))/\Hid (wr.heap[W.heap.size]?=some (.cells #[.int .i64 0,.int .i64 0,S []] 26 (0,0)))/\Hid (Bl W wr)) (fun i _=>l.length-(intOf i).toNat)
 case atStart=>exact⟨0,dL _,rfl,HH0.o,HR0.o,HB0.o⟩
 case round=>
  obtain⟨j,hj,rfl,HH,HRR,HB⟩:=hrel;have hsz:W.heap.size+1<wr.heap.size:=(aC.1 HH.o).1;have hib:=hi_bound ((l.map fun v=>v.2.1).take j) fun n hn=>by
   obtain⟨y,hy,rfl⟩:=List.mem_map.1 (List.mem_of_mem_take hn);exact HI.o y hy
  have lob:=lo_bound ((l.map fun v=>v.2.1).take j);rw[List.length_take,mD] at hib lob;by_cases hlt:j<l.length
  ·obtain⟨b,off,rfl,-,hbl,h3⟩:=HC.o j hlt;obtain⟨e0,e1,e2⟩:=(h3.keep (HB.o.block b hbl)).three;have hlt':(j:Int)<(l.length:Int):=(by omega);have hy64:=HI.o _ (dS hlt);have HS1:=aB (show hiS ((l.map fun v=>v.2.1).take (j+1))=hiS ((l.map fun v=>v.2.1).take j)+l[j].2.1 / 4294967296 from by rw[takeD_snoc (l.map fun v=>v.2.1) (by simpa using hlt),hi_snoc];simp);have HS2:=aB (show loS ((l.map fun v=>v.2.1).take (j+1))=loS ((l.map fun v=>v.2.1).take j)+l[j].2.1 % 4294967296 from by rw[takeD_snoc (l.map fun v=>v.2.1) (by simpa using hlt),lo_snoc];simp);have hm:=bits_low l[j].2.1;have hbw:b<wr.heap.size:=(by have:=HB.o.size;omega);clear h3;generalize l[j]=y at *;obtain⟨y1,y2,y3⟩:=y;simp only at e0 e1 e2 hy64 HS1 HS2 hm;generalize hiS ((l.map fun v=>v.2.1).take j)=x at *;generalize loS ((l.map fun v=>v.2.1).take j)=z at *;obtain⟨f0,f1⟩:=two2 HH.o;unfold I64 at hy64;have hx0: -2147483648000000<=x:=(by omega);have hx1:x<=2147483648000000:=(by omega);have hz0:0<=z:=(by omega);have hz1:z<=4294967295000000:=(by omega);clear hib lob;have HA:=aB ((Bl.refl wr).alloc (.cells #[.int .i64 y1,.int .i64 y2,S y3] 26));go_wp2_with (refine bA (g:=W.heap.size+1) (i:=0) rfl rfl rfl rfl [.int .i64 (x+y2 / 4294967296),.int .i64 z] (keep_b HH.o HA.o) rfl rfl e3v rfl ?_)
   intro w2 hB2 hX2;have HNV:=aB ((hB2.same _ (by omega)).trans (aN wr (.cells #[.int .i64 y1,.int .i64 y2,S y3] 26)));have HBW2:=aB (hB2.bl (HB.o.alloc (.cells #[.int .i64 y1,.int .i64 y2,S y3] 26)) (by omega));have HR2:=aB ((hB2.same _ (by omega)).trans (keep_b HRR.o HA.o));obtain⟨g0,g1⟩:=two2 hX2;obtain⟨q0,q1,q2⟩:=three3 HNV.o;have HX2:=aB hX2;clear e0 e1 e2 f0 f1 hX2 hB2;generalize hx':x+y2 / 4294967296=x' at *;go_wp2_with (refine bA (g:=W.heap.size+1) (i:=1) rfl rfl rfl rfl [.int .i64 x',.int .i64 (z+y2 % 4294967296)] HX2.o rfl rfl e3v rfl ?_)
   intro w3 hB3 hX3;have HX3:=aB hX3;have HB3:=aB (hB3.bl HBW2.o (by omega));have HR3:=aB ((hB3.same _ (by omega)).trans HR2.o);clear hX3 hB3 g0 g1 q0 q1 q2;go_wp2;go_roundw
   case rel=>exact⟨j+1,by omega,by go_num,by rw[HS1.o,HS2.o];exact HX3.o,HR3.o,HB3.o⟩
   case measure=>simp[intOf];omega
  ·obtain rfl:j=l.length:=by omega
   have hge:¬((l.length:Int)<(l.length:Int)):=(by omega);rw[jS (by simp)] at HH hib lob;have HT:=aB (total_hi l);have HBK:=aB (halves_back (l.map fun v=>v.2.1));unfold totalV at HR;generalize hx:hiS (l.map fun v=>v.2.1)=x at *;generalize hy:loS (l.map fun v=>v.2.1)=y at *;clear hx hy;have hx0: -2147483648000000<=x:=(by omega);have hx1:x<=2147483648000000:=(by omega);have hy0:0<=y:=(by omega);have hy1:y<=4294967295000000:=(by omega);obtain⟨f0,f1⟩:=two2 HH.o;clear hib lob;by_cases c1: -2147483648<=x+y / 4294967296
   ·by_cases c2:x+y / 4294967296<2147483648
    ·have HV:=aB (show R=((2,(x+y / 4294967296) * 4294967296+y % 4294967296,[]),0) from by rw[<-HR.o,<-HBK.o];simp only;rw[if_pos (by rw[HBK.o,HT.o,decide_eq_true c1,decide_eq_true c2];rfl)]);have hm:=bits_low y;have hj:=bits_join c1 c2 (show 0<=y % 4294967296 by omega) (show y % 4294967296<4294967296 by omega);clear HR HT HBK;go_wp2_with (refine bA (g:=W.heap.size+1) (i:=0) rfl rfl rfl rfl [.int .i64 (x+y / 4294967296),.int .i64 y] HH.o rfl rfl e3v rfl ?_)
     intro w3 hB3 hX3;have HB3:=aB (hB3.bl HB.o (by omega));have HR3:=aB ((hB3.same _ (by omega)).trans HRR.o);obtain⟨f0,f1⟩:=two2 hX3;generalize hz:x+y / 4294967296=z at *;go_wp2_with fail
     (with_reducible refine(bmust_yes _ _).mono ?_)
     rintro e w4 ⟨rfl,rfl⟩;go_wp2_with (refine bA (g:=W.heap.size) (i:=0) rfl rfl rfl rfl (cells3 (2,z * 4294967296+y % 4294967296,[])) HR3.o rfl rfl vlInfo rfl ?_)
     intro w9 hB9 hX9;go_wp2;exact bodyPost_ret (v:=VlV (2,z * 4294967296+y % 4294967296,[])) (results_cell_row (p:=2) (ty:=26) rfl _ _ W.heap.size 26 _ (0,0) _ rfl hX9 Tryz.underlying26 rfl vlInfo) rfl ⟨by rw[HV.o];rfl,hB9.bl HB3.o (by omega)⟩
    ·have HV:=aB (show R=(zVl,122) from by rw[<-HR.o,<-HBK.o];simp only;rw[if_neg (by rw[HBK.o,HT.o,decide_eq_false c2,Bool.and_false];exact Bool.false_ne_true)]);clear HR HT HBK;go_wp2_with (refine bA (g:=W.heap.size+1) (i:=0) rfl rfl rfl rfl [.int .i64 (x+y / 4294967296),.int .i64 y] HH.o rfl rfl e3v rfl ?_)
     intro w3 hB3 hX3;have HB3:=aB (hB3.bl HB.o (by omega));have HR3:=aB ((hB3.same _ (by omega)).trans HRR.o);obtain⟨f0,f1⟩:=two2 hX3;generalize hz:x+y / 4294967296=z at *;go_wp2_with fail;rw[decide_eq_false (Int.not_lt.2 c2)]
     (with_reducible refine(bmust_no _ _).mono ?_)
     rintro e w4 ⟨rfl,rfl⟩;go_wp2;exact⟨rfl,by rw[HV.o];rfl,HB3.o⟩
   ·have HV:=aB (show R=(zVl,122) from by rw[<-HR.o,<-HBK.o];simp only;rw[if_neg (by rw[HBK.o,HT.o,decide_eq_false c1,pK];exact Bool.false_ne_true)]);clear HR HT HBK;go_wp2_with (refine bA (g:=W.heap.size+1) (i:=0) rfl rfl rfl rfl [.int .i64 (x+y / 4294967296),.int .i64 y] HH.o rfl rfl e3v rfl ?_)
    intro w3 hB3 hX3;have HB3:=aB (hB3.bl HB.o (by omega));have HR3:=aB ((hB3.same _ (by omega)).trans HRR.o);obtain⟨f0,f1⟩:=two2 hX3;generalize hz:x+y / 4294967296=z at *;go_wp2_with fail
    (with_reducible refine(bmust_no _ _).mono ?_)
    rintro e w4 ⟨rfl,rfl⟩;go_wp2;exact⟨rfl,by rw[HV.o];rfl,HB3.o⟩
end
section
theorem vMinFunc_any{W:World}{a:Option Addr}{cap:Nat}{l:List Vl}{p:Nat->Prop}{v:Vl}{r:List Vl}(hl:l=v::r)(hlen:l.length<=1000000)(hR:ReadsVl p W (.slice a l.length cap) l):
  Calls Tryz.prog 103 #[.slice a l.length cap,.func (.func 104) #[] #[]] W fun e w'=>e= .returned (VlV (r.foldl (bestV true) v))/\Bl W w':=by
 obtain⟨a',cap',e,hc⟩:=hR.shape;obtain⟨rfl,rfl⟩:a=a'/\cap=cap':=(by simpa using e);have HC:=aB hc;obtain⟨R,HR⟩:∃R,Hid (r.foldl (bestV true) v=R):=⟨_,rfl⟩
 rw[HR.o];have HL:=aB hl;have hl0:0<l.length:=(by rw[hl];simp);obtain⟨b0,off0,rfl,-,hbl0,h30⟩:=HC.o 0 hl0;obtain⟨e0,e1,e2⟩:=h30.three;have H0:=aB (show l[0]=v from by simp[hl]);rw[H0.o] at e0 e1 e2;have hn1:¬(l.length:Int)<1:=(by omega);clear hR hc e h30 hl H0;obtain⟨v1,v2,v3⟩:=v;simp only[Nat.zero_mul,Nat.add_zero] at e0 e1 e2;have HB0:=aB (((Bl.refl W).alloc (.cells #[.int .i64 0,.int .i64 0,S []] 26)).alloc (.cells #[.int .i64 v1,.int .i64 v2,S v3] 26));have HH0:=aB (aV (W.alloc (.cells #[.int .i64 0,.int .i64 0,S []] 26)) (.cells #[.int .i64 v1,.int .i64 v2,S v3] 26) (k:=W.heap.size+1) (by simp));have HR0:=aB (keep_b (aN W (.cells #[.int .i64 0,.int .i64 0,S []] 26)) ((Bl.refl _).alloc (.cells #[.int .i64 v1,.int .i64 v2,S v3] 26)));go_enter Tryz.func103,Tryz.ntmps103;go_wp2_with fail;go_loopw [6] (fun i wr=>∃(j:Nat) (m:Vl),j<=l.length/\i= .int .i64 (j:Int)/\Hid (wr.heap[W.heap.size+1]?=some (.cells #[.int .i64 m.1,.int .i64 m.2.1,S m.2.2] 26 (0,0)))/\Hid (wr.heap[W.heap.size]?=some (.cells #[.int .i64 0,.int .i64 0,S []] 26 (0,0)))/\Hid (R=(l.drop j).foldl (bestV true) m)/\Hid (Bl W wr)) (fun i _=>l.length-(intOf i).toNat)
 case atStart=>exact⟨1,(v1,v2,v3),hl0,by go_num,HH0.o,HR0.o,by rw[HL.o];exact HR.o.symm,HB0.o⟩
 case round=>
  obtain⟨j,m,hj,rfl,HH,HRR,HM,HB⟩:=hrel;have hsz:W.heap.size+1<wr.heap.size:=(aC.1 HH.o).1;obtain⟨m1,m2,m3⟩:=m;simp only at HH;obtain⟨f0,f1,f2⟩:=three3 HH.o;by_cases hlt:j<l.length
  ·obtain⟨b,off,hbo,-,hbl,h3⟩:=HC.o j hlt;obtain⟨rfl,rfl⟩:b0=b/\off0=off:=(by simpa using hbo);obtain⟨e0,e1,e2⟩:=(h3.keep (HB.o.block _ hbl)).three;have hlt':(j:Int)<(l.length:Int):=(by omega);have HN:=aB (show R=(l.drop (j+1)).foldl (bestV true) (bestV true (m1,m2,m3) l[j]) from by rw[HM.o,aZ hlt];rfl);clear h3 HM;generalize l[j]=y at *;obtain⟨y1,y2,y3⟩:=y;simp only at e0 e1 e2;have HO:=aB (fun w=>Order_any y1 y2 y3 m1 m2 m3 w);obtain⟨c,hc⟩:∃c,d2h y1 y2 y3 m1 m2 m3=c:=⟨_,rfl⟩
   rw[hc] at HO;have HP:=aB (fun(h:c<0)=>(show R=(l.drop (j+1)).foldl (bestV true) (y1,y2,y3) from by
    rw[HN.o]
    congr 1
    show(if ordVl (y1,y2,y3) (m1,m2,m3)<0 then(y1,y2,y3) else(m1,m2,m3))=_;rw[if_pos (by rw[<-hc] at h;exact h)]))
   have HQ:=aB (fun(h:¬(c<0))=>(show R=(l.drop (j+1)).foldl (bestV true) (m1,m2,m3) from by
    rw[HN.o]
    congr 1
    show(if ordVl (y1,y2,y3) (m1,m2,m3)<0 then(y1,y2,y3) else(m1,m2,m3))=_;rw[if_neg (by rw[<-hc] at h;exact h)]))
   have E0:=aB e0;have E1:=aB e1;have E2:=aB e2;have hbw:b0<wr.heap.size:=(by have:=HB.o.size;omega);clear hc HN;go_wp2_with fail
   go_still_tail 6,(by kernel_rfl)
   go_wp2_with fail;refine(HO.o _).mono ?_;rintro e w1 ⟨rfl,hb0⟩;have hb1:Bl wr w1:=(Bl.refl wr).drew.call hb0;clear hb0;have HB1:=aB (HB.o.call hb1);have HH1:=aB (keep_b HH.o hb1);have HR1:=aB (keep_b HRR.o hb1);have g0:=Bl.cell hb1 E0.o;have g1:=Bl.cell hb1 E1.o;have g2:=Bl.cell hb1 E2.o;clear hb1 e0 e1 e2 f0 f1 f2;by_cases hs:c<0
   ·have HN:=aB (HP.o (by omega));clear HP HQ;go_wp2_with (refine bA (g:=W.heap.size+1) (i:=0) rfl rfl rfl rfl (cells3 (y1,y2,y3)) HH1.o rfl rfl vlInfo rfl ?_)
    intro w3 hB3 hX3;have HX3:=aB hX3;have HB3:=aB (hB3.bl HB1.o (by omega));have HR3:=aB ((hB3.same _ (by omega)).trans HR1.o);clear hX3 hB3;go_wp2;go_roundw
    case rel=>exact⟨j+1,(y1,y2,y3),by omega,by go_num,HX3.o,HR3.o,HN.o,HB3.o⟩
    case measure=>simp[intOf];omega
   ·have HN:=aB (HQ.o (by omega));clear HP HQ;go_wp2;go_roundw
    case rel=>exact⟨j+1,(m1,m2,m3),by omega,by go_num,HH1.o,HR1.o,HN.o,HB1.o⟩
    case measure=>simp[intOf];omega
  ·have hq:l.length=j:=by omega
   have HN:=aB (show R=(m1,m2,m3) from by rw[HM.o,List.drop_of_length_le (by omega)];rfl);have hge:¬((j:Int)<(l.length:Int)):=(by omega);clear hq;go_wp2_with (refine bA (g:=W.heap.size) (i:=0) rfl rfl rfl rfl (cells3 (m1,m2,m3)) HRR.o rfl rfl vlInfo rfl ?_)
   intro w9 hB9 hX9;go_wp2;exact bodyPost_ret (v:=VlV (m1,m2,m3)) (results_cell_row (p:=4) (ty:=26) rfl _ _ W.heap.size 26 _ (0,0) _ rfl hX9 Tryz.underlying26 rfl vlInfo) rfl ⟨by rw[HN.o],hB9.bl HB.o (by omega)⟩
theorem vMaxFunc_any{W:World}{a:Option Addr}{cap:Nat}{l:List Vl}{p:Nat->Prop}{v:Vl}{r:List Vl}(hl:l=v::r)(hlen:l.length<=1000000)(hR:ReadsVl p W (.slice a l.length cap) l):
  Calls Tryz.prog 105 #[.slice a l.length cap,.func (.func 104) #[] #[]] W fun e w'=>e= .returned (VlV (r.foldl (bestV false) v))/\Bl W w':=by
 obtain⟨a',cap',e,hc⟩:=hR.shape;obtain⟨rfl,rfl⟩:a=a'/\cap=cap':=(by simpa using e);have HC:=aB hc;obtain⟨R,HR⟩:∃R,Hid (r.foldl (bestV false) v=R):=⟨_,rfl⟩
 rw[HR.o];have HL:=aB hl;have hl0:0<l.length:=(by rw[hl];simp);obtain⟨b0,off0,rfl,-,hbl0,h30⟩:=HC.o 0 hl0;obtain⟨e0,e1,e2⟩:=h30.three;have H0:=aB (show l[0]=v from by simp[hl]);rw[H0.o] at e0 e1 e2;have hn1:¬(l.length:Int)<1:=(by omega);clear hR hc e h30 hl H0;obtain⟨v1,v2,v3⟩:=v;simp only[Nat.zero_mul,Nat.add_zero] at e0 e1 e2;have HB0:=aB (((Bl.refl W).alloc (.cells #[.int .i64 0,.int .i64 0,S []] 26)).alloc (.cells #[.int .i64 v1,.int .i64 v2,S v3] 26));have HH0:=aB (aV (W.alloc (.cells #[.int .i64 0,.int .i64 0,S []] 26)) (.cells #[.int .i64 v1,.int .i64 v2,S v3] 26) (k:=W.heap.size+1) (by simp));have HR0:=aB (keep_b (aN W (.cells #[.int .i64 0,.int .i64 0,S []] 26)) ((Bl.refl _).alloc (.cells #[.int .i64 v1,.int .i64 v2,S v3] 26)));go_enter Tryz.func105,Tryz.ntmps105;go_wp2_with fail;go_loopw [6] (fun i wr=>∃(j:Nat) (m:Vl),j<=l.length/\i= .int .i64 (j:Int)/\Hid (wr.heap[W.heap.size+1]?=some (.cells #[.int .i64 m.1,.int .i64 m.2.1,S m.2.2] 26 (0,0)))/\Hid (wr.heap[W.heap.size]?=some (.cells #[.int .i64 0,.int .i64 0,S []] 26 (0,0)))/\Hid (R=(l.drop j).foldl (bestV false) m)/\Hid (Bl W wr)) (fun i _=>l.length-(intOf i).toNat)
 case atStart=>exact⟨1,(v1,v2,v3),hl0,by go_num,HH0.o,HR0.o,by rw[HL.o];exact HR.o.symm,HB0.o⟩
 case round=>
  obtain⟨j,m,hj,rfl,HH,HRR,HM,HB⟩:=hrel;have hsz:W.heap.size+1<wr.heap.size:=(aC.1 HH.o).1;obtain⟨m1,m2,m3⟩:=m;simp only at HH;obtain⟨f0,f1,f2⟩:=three3 HH.o;by_cases hlt:j<l.length
  ·obtain⟨b,off,hbo,-,hbl,h3⟩:=HC.o j hlt;obtain⟨rfl,rfl⟩:b0=b/\off0=off:=(by simpa using hbo);obtain⟨e0,e1,e2⟩:=(h3.keep (HB.o.block _ hbl)).three;have hlt':(j:Int)<(l.length:Int):=(by omega);have HN:=aB (show R=(l.drop (j+1)).foldl (bestV false) (bestV false (m1,m2,m3) l[j]) from by rw[HM.o,aZ hlt];rfl);clear h3 HM;generalize l[j]=y at *;obtain⟨y1,y2,y3⟩:=y;simp only at e0 e1 e2;have HO:=aB (fun w=>Order_any y1 y2 y3 m1 m2 m3 w);obtain⟨c,hc⟩:∃c,d2h y1 y2 y3 m1 m2 m3=c:=⟨_,rfl⟩
   rw[hc] at HO;have HP:=aB (fun(h:0<c)=>(show R=(l.drop (j+1)).foldl (bestV false) (y1,y2,y3) from by
    rw[HN.o]
    congr 1
    show(if 0<ordVl (y1,y2,y3) (m1,m2,m3) then(y1,y2,y3) else(m1,m2,m3))=_;rw[if_pos (by rw[<-hc] at h;exact h)]))
   have HQ:=aB (fun(h:¬(0<c))=>(show R=(l.drop (j+1)).foldl (bestV false) (m1,m2,m3) from by
    rw[HN.o]
    congr 1
    show(if 0<ordVl (y1,y2,y3) (m1,m2,m3) then(y1,y2,y3) else(m1,m2,m3))=_;rw[if_neg (by rw[<-hc] at h;exact h)]))
   have E0:=aB e0;have E1:=aB e1;have E2:=aB e2;have hbw:b0<wr.heap.size:=(by have:=HB.o.size;omega);clear hc HN;go_wp2_with fail
   go_still_tail 6,(by kernel_rfl)
   go_wp2_with fail;refine(HO.o _).mono ?_;rintro e w1 ⟨rfl,hb0⟩;have hb1:Bl wr w1:=(Bl.refl wr).drew.call hb0;clear hb0;have HB1:=aB (HB.o.call hb1);have HH1:=aB (keep_b HH.o hb1);have HR1:=aB (keep_b HRR.o hb1);have g0:=Bl.cell hb1 E0.o;have g1:=Bl.cell hb1 E1.o;have g2:=Bl.cell hb1 E2.o;clear hb1 e0 e1 e2 f0 f1 f2;by_cases hs:0<c
   ·have HN:=aB (HP.o (by omega));clear HP HQ;go_wp2_with (refine bA (g:=W.heap.size+1) (i:=0) rfl rfl rfl rfl (cells3 (y1,y2,y3)) HH1.o rfl rfl vlInfo rfl ?_)
    intro w3 hB3 hX3;have HX3:=aB hX3;have HB3:=aB (hB3.bl HB1.o (by omega));have HR3:=aB ((hB3.same _ (by omega)).trans HR1.o);clear hX3 hB3;go_wp2;go_roundw
    case rel=>exact⟨j+1,(y1,y2,y3),by omega,by go_num,HX3.o,HR3.o,HN.o,HB3.o⟩
    case measure=>simp[intOf];omega
   ·have HN:=aB (HQ.o (by omega));clear HP HQ;go_wp2;go_roundw
    case rel=>exact⟨j+1,(m1,m2,m3),by omega,by go_num,HH1.o,HR1.o,HN.o,HB1.o⟩
    case measure=>simp[intOf];omega
  ·have hq:l.length=j:=by omega
   have HN:=aB (show R=(m1,m2,m3) from by rw[HM.o,List.drop_of_length_le (by omega)];rfl);have hge:¬((j:Int)<(l.length:Int)):=(by omega);clear hq;go_wp2_with (refine bA (g:=W.heap.size) (i:=0) rfl rfl rfl rfl (cells3 (m1,m2,m3)) HRR.o rfl rfl vlInfo rfl ?_)
   intro w9 hB9 hX9;go_wp2;exact bodyPost_ret (v:=VlV (m1,m2,m3)) (results_cell_row (p:=4) (ty:=26) rfl _ _ W.heap.size 26 _ (0,0) _ rfl hX9 Tryz.underlying26 rfl vlInfo) rfl ⟨by rw[HN.o],hB9.bl HB.o (by omega)⟩
end
end Go.Proofs.YtkimpcmkminffaaGreatDoor
