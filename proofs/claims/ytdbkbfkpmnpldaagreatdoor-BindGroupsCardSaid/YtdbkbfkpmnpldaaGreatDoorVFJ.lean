/- Texts beside the shared ones. -/
import Derived.Test.YtdbkbfkpmnpldaaGreatDoorVX0
import Derived.Test.YtdbkbfkpmnpldaaGreatDoorVFI
namespace Go.Proofs.YtdbkbfkpmnpldaaGreatDoor
open Go.RowKit
open _root_.Go.Act renaming put->aK
open _root_.And renaming intro->bT
open _root_.Array renaming getElem?_eq_some_iff->aC
open _root_.Go.RowKit.Below renaming grown->iL
open _root_.Bool renaming and_eq_true->aQ,false_and->pK,true_and->rC
open _root_.Go.Lib renaming hid->aB
open _root_.List renaming all_eq_true->jA,drop_length->dO,getElem_mem->dS,length_map->mD,setIfInBounds_toArray->aA,set_cons_succ->aF,set_cons_zero->aD,take_of_length_le->jS
open _root_.Nat renaming le_refl->aH,zero_le->dL
open NoPanic renaming normal->bF
open _root_.Go.World renaming ownsRow_nil->d2l,size_alloc->aR
set_option maxRecDepth 100000
set_option maxHeartbeats 16000000
section
theorem rOf_kVl(t:Int)(h:I64 t)(w:World):Calls Tryz.prog 98 #[.int .i64 t] w fun e w'=>e= .returned (VlV (kVl t))/\Bl w w':=by
 have:=a9u t h.1 h.2 w;rw[of_kVl] at this;exact this
theorem and2_64(a b:Int):I64 (d2d a b):=by unfold d2d I64;repeat' split<;>omega
theorem not2_64(a:Int):I64 (c9p a):=by unfold c9p I64;repeat' split<;>omega
theorem or2_64(a b:Int):I64 (or2 a b):=not2_64 _
theorem rAnd2(a b:Int)(w:World):Calls Tryz.prog 99 #[.int .i64 a,.int .i64 b] w fun e w'=>e= .returned (.int .i64 (d2d a b))/\w=w':=(rAnd_any a b w).mono fun _ _ h=>⟨h.1,h.2.symm⟩
theorem rOr2(a b:Int)(w:World):Calls Tryz.prog 100 #[.int .i64 a,.int .i64 b] w fun e w'=>e= .returned (.int .i64 (or2 a b))/\w=w':=(rOr_any a b w).mono fun _ _ h=>⟨h.1,h.2.symm⟩
theorem rNot2(a:Int)(w:World):Calls Tryz.prog 102 #[.int .i64 a] w fun e w'=>e= .returned (.int .i64 (c9p a))/\w=w':=(rNot_any a w).mono fun _ _ h=>⟨h.1,h.2.symm⟩
theorem rKnown2(v:Vl)(h:Int2 v)(w:World):Calls Tryz.prog 48 #[VlV v] w fun e w'=>e= .returned (.int .i64 (knVl v))/\Bl w w':=rKnown_any v.1 v.2.1 v.2.2 h.2.1 h.2.2 h.1.1 h.1.2 w
structure RoF(pa pb:Nat)(a b:Vl)(W A:World):Prop where
 r:A.heap[W.heap.size]?=some (.cells #[.int .i64 0,.int .i64 0,S []] 26 (0,0))
 a:A.heap[pa]?=some (.cells #[.int .i64 a.1,.int .i64 a.2.1,S a.2.2] 26 (0,0))
 b:A.heap[pb]?=some (.cells #[.int .i64 b.1,.int .i64 b.2.1,S b.2.2] 26 (0,0))
 na:W.heap.size<pa
 nb:W.heap.size<pb
 bl:Bl W A
theorem RoF.call{pa pb:Nat}{a b:Vl}{W A B:World}(h:RoF pa pb a b W A)(hb:Bl A B):RoF pa pb a b W B:=⟨keep_b h.r hb,keep_b h.a hb,keep_b h.b hb,h.na,h.nb,h.bl.call hb⟩
theorem RoF.va{pa pb:Nat}{a b:Vl}{W A:World}(h:RoF pa pb a b W A):VaF W A:=⟨h.r,h.bl⟩
theorem new_at{u X:World}{o:Obj}(_:Bl u (X.alloc o)):(X.alloc o).heap[X.heap.size]?=some o:=aN X o
theorem whole_shape{o a b:Int}{r1 r2:Int}{r3:List UInt8}{c:Int}(h:wholeO o a b=((r1,r2,r3),c)):(c=0/\r1=2/\r3=[])\/(c≠0/\r1=0/\r2=0/\r3=[]):=by
 have hn:∀n,numV n=((r1,r2,r3),c)->(c=0/\r1=2/\r3=[])\/(c≠0/\r1=0/\r2=0/\r3=[]):=fun n h=>by
  unfold numV at h;split at h
  ·injection h with h1 h2;injection h1 with h3 h4;injection h4 with h5 h6;exact .inl ⟨h2.symm,h3.symm,h6.symm⟩
  ·injection h with h1 h2;injection h1 with h3 h4;injection h4 with h5 h6;exact .inr ⟨by rw[<-h2];decide,h3.symm,h5.symm,h6.symm⟩
 unfold wholeO at h
 repeat' split at h
 all_goals first
  |exact hn _ h
  |(simp only[Prod.mk.injEq] at h;obtain⟨⟨rfl,rfl,rfl⟩,rfl⟩:=h;first |exact .inl ⟨rfl,rfl,rfl⟩|exact .inr ⟨by decide,rfl,rfl,rfl⟩)
theorem uDo_any(o:Int)(l:List Vl)(hlen:l.length<=1000000)(hI:∀v∈l,Int2 v)(W:World)(a:Option Addr)(cap:Nat){p:Nat->Prop}(hR:ReadsVl p W (.slice a l.length cap) l):
  Calls Tryz.prog 69 #[.int .i64 o,.slice a l.length cap] W fun e w'=>e= .returned (.tuple #[VlV (doO o l).1,.int .i64 (doO o l).2])/\Bl W w':=by
 obtain⟨a',cap',e,hc⟩:=hR.shape;obtain⟨rfl,rfl⟩:a=a'/\cap=cap':=(by simpa using e);have HC:=aB hc;have HI:=aB hI;obtain⟨Z,HZ⟩:∃Z,Hid (doO o l=Z):=⟨_,rfl⟩
 rw[HZ.o];have HF0:=aB (VaF.start W);have HTL:Hid ((l.map (·.1)).length=l.length):=mD ..;clear hR hc e hI;go_enter Tryz.func69,Tryz.ntmps69;go_wp2_with fail;go_loopw [6,7,8] (fun sv nu i wr=>∃(j:Nat) (v0:Value) (nul:Bool),v0=sv/\nu= .bool nul/\j<=l.length/\i= .int .i64 (j:Int)/\Hid (nul=(l.take j).any fun v=>v.1==0)/\Hid (l.all okVl=(l.drop j).all okVl)/\Hid (wr.ownsRow (W.heap.size+1) 3 1 v0 j (((l.map (·.1)).take j).flatMap fun t=>[.int .i64 t]))/\Hid (VaF W wr)) (fun _ _ i _=>l.length-(intOf i).toNat)
 case atStart=>exact⟨0,_,false,rfl,rfl,dL _,rfl,rfl,rfl,d2l _ _ _ _,HF0.o⟩
 case round=>
  obtain⟨j,v0,nul,rfl,rfl,hj,rfl,HN,HD,HO,HF⟩:=hrel;by_cases hlt:j<l.length
  ·obtain⟨b,off,rfl,-,hbl,h3⟩:=HC.o j hlt;have hjt:j<(l.map (·.1)).length:=(by rw[HTL.o];exact hlt);have HSN:=aB (types_snoc (l.map (·.1)) hjt);have hge:(l.map (·.1))[j]'hjt=l[j].1:=(by simp);rw[hge] at HSN;have HD2:=aB (HD.o.trans (allV_drop okVl hlt));have HN2:=aB (show(l.take (j+1)).any (fun v=>v.1==0)=(nul||(l[j].1==0)) from by rw[takeD_snoc l hlt,List.any_append,HN.o];simp);have HIY:=aB (HI.o _ (dS hlt));obtain⟨e0,e1,e2⟩:=(h3.keep (HF.o.bl.block b hbl)).three;have hlt':(j:Int)<(l.length:Int):=(by omega);have H3:=aB h3;clear h3 hge;generalize l[j]=y at *;obtain⟨y1,y2,y3⟩:=y;simp only at e0 e1 e2 HSN HN2 HD2;go_wp2_with fail;refine(tN y1 y2 y3 HIY.o.1.1 HIY.o.1.2 _).mono ?_;rintro e w1 ⟨rfl,hb1⟩;have HF1:=aB (HF.o.call hb1);have HO1:=aB (gY hb1 HO.o);have f0:=Bl.cell hb1 e0;have hsz1:W.heap.size+1<=w1.heap.size:=(by have:=(aC.1 HF1.o.r).1;omega);clear hb1 e0 e1 e2;by_cases hok:chk y1 y2 y3=0
   ·have HO2:=aB (HD2.o.trans (by rw[show okVl (y1,y2,y3)=true from by simp[okVl,hok],rC]):l.all okVl=(l.drop (j+1)).all okVl);rw[hok];clear hok;have hlow:=aB HO1.o.lt;go_wp2_with (at_builtin;refine wpList_append_row rfl (.tmp 28) (.tmp 34) rfl intFull Tryz.underlying68 rfl (by decide) (by decide) (W.heap.size+1) _ j _ rfl (gY ((Bl.refl w1).alloc _) HO1.o) w1.heap.size [.int .i64 y1] rfl (aN w1 _) rfl rfl (by omega) (by simp;omega) ?_)
    intro v' w2 hown2 hg2 _;have hkeep:∀i,i<w1.heap.size->(∀q,v0.ownBlock=some q->i≠q)->w2.heap[i]?=w1.heap[i]?:=fun i hi hq=>(hg2.block i (by simp;omega) (fun e=>hq i e.symm rfl)).trans (aW w1 _ (by omega));have HF2:=aB (show VaF W w2 from⟨(hkeep _ (by omega) (fun q hq=>by have:=(hlow.o q hq).1;omega)).trans HF1.o.r,iL (HF1.o.bl.alloc (.cells #[.int .i64 y1] 3)) hg2 (by simp;omega) (fun i hi=>by have:=(hlow.o i hi).1;omega)⟩);obtain⟨g0,-,-⟩:=(H3.o.keep (HF2.o.bl.block b hbl)).three;have HO3:=aB hown2;clear hown2 hg2 hkeep f0;clear HN;cases nul
    ·have HN3:=aB (show(y1==0)=(l.take (j+1)).any (fun v=>v.1==0) from by rw[HN2.o,Bool.false_or]);go_wp2;go_roundw
     case rel=>exact⟨j+1,_,(y1==0),rfl,rfl,by omega,by go_num,HN3.o,HO2.o,by rw[HSN.o];exact HO3.o,HF2.o⟩
     case measure=>simp[intOf];omega
    ·have HN3:=aB (show true=(l.take (j+1)).any (fun v=>v.1==0) from by rw[HN2.o];rfl);go_wp2;go_roundw
     case rel=>exact⟨j+1,_,true,rfl,rfl,by omega,by go_num,HN3.o,HO2.o,by rw[HSN.o];exact HO3.o,HF2.o⟩
     case measure=>simp[intOf];omega
   ·have HO2:=aB (HD2.o.trans (by rw[show okVl (y1,y2,y3)=false from by simp[okVl,hok],pK]):l.all okVl=false);have q0:(chk y1 y2 y3 != 0)=true:=(by simpa using hok);clear hok;go_wp2_with (refine bA (g:=W.heap.size) (i:=0) rfl rfl rfl rfl (cells3 zVl) (HF1.o).r rfl rfl vlInfo rfl ?_)
    intro w9 hB9 hX9;obtain⟨q0,q1,q2⟩:=three3 hX9;go_wp2;refine bodyPost_ret (v:= .tuple #[VlV zVl,.int .i64 2]) (by simp[results,Tryz.results69,go_sem,q0,q1,q2]) rfl ⟨?_,hB9.bl (HF1.o).bl (by omega)⟩;rw[<-HZ.o];unfold doO;rw[if_pos HO2.o]
  ·obtain rfl:j=l.length:=by omega
   have HOK:=aB (HD.o.trans (by rw[dO];rfl):l.all okVl=true);have HNN:=aB (HN.o.trans (by rw[jS (aH _)]):nul=l.any fun v=>v.1==0);have HIN:Hid (b3j wr v0 (l.map (·.1))/\∃va vc,v0= .slice va l.length vc):=by
    have h:=HO.o;rw[jS (by rw[HTL.o];exact aH _)] at h;have h2:=own_intsA (T:=3) (base:=W.heap.size+1) (l:=l.map (·.1)) (by rw[HTL.o];exact h);refine⟨h2,?_⟩;obtain⟨va,vc,e,-⟩:=h2;rw[HTL.o] at e;exact⟨va,vc,e⟩
   obtain⟨va,vc,rfl⟩:=HIN.o.2;have hge:¬((l.length:Int)<(l.length:Int)):=(by omega);have HMK:Hid (Calls Tryz.prog 61 #[.int .i64 o,.slice va l.length vc] wr fun e w'=>e= .returned (.tuple #[.int .i64 (makesO o (l.map (·.1))).1,.int .i64 (makesO o (l.map (·.1))).2])/\Bl wr w'):=by
    have h:=uMakes_any o (l.map (·.1)) va vc (by rw[HTL.o];exact hlen) wr (by rw[HTL.o];exact HIN.o.1);rw[HTL.o] at h;exact h
   have HRS:=aB (fun h=>doO_rest (o:=o) HOK.o h);have HTB:=aB (fun h=>doO_typ (o:=o) HOK.o h);have HLP:Hid ((makesO o (l.map (·.1))).2=0->0<l.length):=fun h=>by
    unfold makesO at h;rcases Nat.eq_zero_or_pos l.length with h0|h0
    ·rw[HTL.o,h0] at h;by_cases h3:1<=o/\o<=20
     ·rw[if_pos (.inr (by have:=many_pos h3;omega))] at h;cases h
     ·rw[if_pos (.inl h3)] at h;cases h
    ·exact h0
   rw[HZ.o] at HRS HTB;generalize (makesO o (l.map (·.1))).1=t0 at *;generalize (makesO o (l.map (·.1))).2=c at *;clear HO HD HN HIN HZ;go_wp2_with fail;refine HMK.o.mono ?_;rintro e w1 ⟨rfl,hb1⟩;have HF1:=aB (HF.o.call hb1);clear hb1;by_cases hcz:c=0
   case neg=>
    have q0:(c != 0)=true:=(by simpa using hcz);have HZ2:=aB (HTB.o hcz);clear hcz HRS HTB;go_wp2_with (refine bA (g:=W.heap.size) (i:=0) rfl rfl rfl rfl (cells3 zVl) (HF1.o).r rfl rfl vlInfo rfl ?_)
    intro w9 hB9 hX9;obtain⟨q0,q1,q2⟩:=three3 hX9;go_wp2;refine bodyPost_ret (v:= .tuple #[VlV zVl,.int .i64 c]) (by simp[results,Tryz.results69,go_sem,q0,q1,q2]) rfl ⟨?_,hB9.bl (HF1.o).bl (by omega)⟩;rw[HZ2.o]
   have HZR:=aB (HRS.o hcz);have hl0:=HLP.o hcz;subst hcz;rw[headD_at hl0,lastD_at (show l.length-1<l.length by omega),<-HNN.o] at HZR;have HIA:=aB (HI.o _ (dS hl0));have HIB:=aB (HI.o _ (dS (show l.length-1<l.length by omega)));have HLA:=aB (ok_len (jA.1 HOK.o _ (dS hl0)));have HLB:=aB (ok_len (jA.1 HOK.o _ (dS (show l.length-1<l.length by omega))));obtain⟨b,off,rfl,-,hbl,h3⟩:=HC.o 0 hl0;obtain⟨b',off',hbo,-,-,h4⟩:=HC.o (l.length-1) (by omega);obtain⟨rfl,rfl⟩:b=b'/\off=off':=(by simpa using hbo);have H3:=aB (h3.keep (HF1.o.bl.block b hbl));have H4:=aB (h4.keep (HF1.o.bl.block b hbl));have hi0:0<(l.length:Int):=(by omega);have hi1:(l.length:Int)-1<(l.length:Int):=(by omega);have hi2:0<=(l.length:Int)-1:=(by omega);have hi3:((l.length:Int)-1).toNat=l.length-1:=(by omega);have hi4:1<=(l.length:Int):=(by omega);have hwl:IntKind.i64.wrap ((l.length:Int)-1)=(l.length:Int)-1:=wrap_fit (by unfold fits64;rw[aQ];simp only[decide_eq_true_eq];omega);clear h3 h4 hbo HTB HRS HLP HMK HNN;generalize l[0]=av at *;generalize l[l.length-1]=bv at *;obtain⟨a1,a2,a3⟩:=av;obtain⟨b1,b2,b3⟩:=bv;obtain⟨e0,e1,e2⟩:=H3.o.three;obtain⟨f0,f1,f2⟩:=H4.o.three;simp only[Nat.zero_mul,Nat.add_zero] at e0 e1 e2;simp only at f0 f1 f2;have HE0:=aB (bT (bT e0 (bT e1 e2)) (bT f0 (bT f1 f2)));clear e0 e1 e2 f0 f1 f2
   go_upto_region 13 with fail
   go_cut [11,12] from 55 to 63 (fun p11 p12 wc=>∃pa pb:Nat,p11= .pointer (some ⟨pa,0,none⟩)/\p12= .pointer (some ⟨pb,0,none⟩)/\Hid (RoF pa pb (a1,a2,a3) (b1,b2,b3) W wc))
   case first=>
    refine wp_region_noPanic (bM (fun B=>Bl w1 B) ((.take 0 (.take 1 (.take 2 (.take 3 (.take 4 (.take 5 (.take 6 (.take 7 (.take 8 (.two 9 10 (.one 10 (.one 11 (.one 12 .done))) (.one 9 (.one 11 (.one 12 .done)))))))))))))) (by kernel_rfl) (by kernel_rfl) (by kernel_rfl) (fun _ _ _ _ _ h=>h) (((Bl.refl w1).drew)) ?_);intro wd HWD hY;iterate 9 (refine aI rfl (by rfl) (by intro w hSw;(try dsimp only at hSw);obtain⟨⟨e0,e1,e2⟩,f0,f1,f2⟩:=HE0.o;replace e0:=Bl.cell hSw e0;replace e1:=Bl.cell hSw e1;replace e2:=Bl.cell hSw e2;replace f0:=Bl.cell hSw f0;replace f1:=Bl.cell hSw f1;replace f2:=Bl.cell hSw f2;go_simp;(try(first |with_reducible rfl|rfl))) ?_;(try simp only[aK,aA,aD,aF]))
    refine sZ ?_ ?_
    focus
     have HSZ9:=aB hY.size;refine aL rfl (fun K hK=>?_);go_simp;refine hK.o _ _ ((hY.call ((Bl.refl _).alloc _))) ?_;clear hY hK K;intro hY;have HA9:=aB (new_at hY);have HSZ10:=aB hY.size;refine aL rfl (fun K hK=>?_);go_simp;refine hK.o _ _ ((hY.call ((Bl.refl _).alloc _))) ?_;clear hY hK K;intro hY;have HA10:=aB (new_at hY);refine aL rfl (fun K hK=>?_);rw[if_pos (by rfl)];refine bC rfl rfl rfl ((cells3 (a1,a2,a3))) (by have h:=HA9.o;(try simp only[aR] at h);first |exact h|exact keep_b h ((Bl.refl _).alloc _)) rfl rfl vlInfo rfl ?_;intro w11 hB11 hX11;refine hK.o _ _ ((by first |exact hB11.bl hY (by have h:=HSZ9.o;(try simp only[aR] at h);first |exact h|omega)|exact hB12.bl hY (by have h:=HSZ10.o;(try simp only[aR] at h);first |exact h|omega))) ?_;clear hY hK K;intro hY;(try simp only[aK])
     refine aL rfl (fun K hK=>?_);rw[if_pos (by rfl)];refine bC rfl rfl rfl ((cells3 (b1,b2,b3))) (by have h:=HA10.o;(try simp only[aR] at h);first |exact(hB11.same _ (by simp)).trans h|exact(hB11.same _ (by simp)).trans (keep_b h ((Bl.refl _).alloc _))) rfl rfl vlInfo rfl ?_;intro w12 hB12 hX12;refine hK.o _ _ ((by first |exact hB11.bl hY (by have h:=HSZ9.o;(try simp only[aR] at h);first |exact h|omega)|exact hB12.bl hY (by have h:=HSZ10.o;(try simp only[aR] at h);first |exact h|omega))) ?_;clear hY hK K;intro hY;(try simp only[aK])
     refine fO (bF ?_);go_wp2
     go_meet
     case rel=>exact⟨_,_,rfl,rfl,⟨keep_b HF1.o.r hY,(hB12.same _ (by simp)).trans hX11,hX12,by have h1:=(aC.1 HF1.o.r).1;have h2:=HSZ9.o;(try simp only[aR] at h2);omega,by have h1:=(aC.1 HF1.o.r).1;have h2:=HSZ10.o;(try simp only[aR] at h2);omega,HF1.o.bl.call hY⟩⟩
    rotate_left 1
    focus
     have HSZ10:=aB hY.size;refine aL rfl (fun K hK=>?_);go_simp;refine hK.o _ _ ((hY.call ((Bl.refl _).alloc _))) ?_;clear hY hK K;intro hY;have HA10:=aB (new_at hY);have HSZ9:=aB hY.size;refine aL rfl (fun K hK=>?_);go_simp;refine hK.o _ _ ((hY.call ((Bl.refl _).alloc _))) ?_;clear hY hK K;intro hY;have HA9:=aB (new_at hY);refine aL rfl (fun K hK=>?_);rw[if_pos (by rfl)];refine bC rfl rfl rfl ((cells3 (a1,a2,a3))) (by have h:=HA9.o;(try simp only[aR] at h);first |exact h|exact keep_b h ((Bl.refl _).alloc _)) rfl rfl vlInfo rfl ?_;intro w11 hB11 hX11;refine hK.o _ _ ((by first |exact hB11.bl hY (by have h:=HSZ9.o;(try simp only[aR] at h);first |exact h|omega)|exact hB12.bl hY (by have h:=HSZ10.o;(try simp only[aR] at h);first |exact h|omega))) ?_;clear hY hK K;intro hY;(try simp only[aK])
     refine aL rfl (fun K hK=>?_);rw[if_pos (by rfl)];refine bC rfl rfl rfl ((cells3 (b1,b2,b3))) (by have h:=HA10.o;(try simp only[aR] at h);first |exact(hB11.same _ (by simp)).trans h|exact(hB11.same _ (by simp)).trans (keep_b h ((Bl.refl _).alloc _))) rfl rfl vlInfo rfl ?_;intro w12 hB12 hX12;refine hK.o _ _ ((by first |exact hB11.bl hY (by have h:=HSZ9.o;(try simp only[aR] at h);first |exact h|omega)|exact hB12.bl hY (by have h:=HSZ10.o;(try simp only[aR] at h);first |exact h|omega))) ?_;clear hY hK K;intro hY;(try simp only[aK])
     refine fO (bF ?_);go_wp2
     go_meet
     case rel=>exact⟨_,_,rfl,rfl,⟨keep_b HF1.o.r hY,(hB12.same _ (by simp)).trans hX11,hX12,by have h1:=(aC.1 HF1.o.r).1;have h2:=HSZ9.o;(try simp only[aR] at h2);omega,by have h1:=(aC.1 HF1.o.r).1;have h2:=HSZ10.o;(try simp only[aR] at h2);omega,HF1.o.bl.call hY⟩⟩
   case rest=>
   clear HF1;obtain⟨pa,pb,rfl,rfl,HD⟩:=hcut;have hna:=HD.o.na;have hnb:=HD.o.nb;have HV:=aB HD.o.va;obtain⟨e0,e1,e2⟩:=three3 HD.o.a;obtain⟨f0,f1,f2⟩:=three3 HD.o.b;clear H3 H4 HI HC hbl hi0 hi1 hi2 hi3 hi4 hwl;by_cases h13:o=13
   ·have g13:(o==13)=true:=by simpa using h13
    obtain⟨⟨k1,k2,k3⟩,hK⟩:∃K,kVl (d2d (knVl (a1,a2,a3)) (knVl (b1,b2,b3)))=K:=⟨_,rfl⟩
    have HZ2:=aB (show Z=((k1,k2,k3),0) from(by rw[HZR.o];unfold restO;rw[if_pos h13,hK]));have HKA:=aB (fun w=>rKnown2 (a1,a2,a3) HIA.o w);have HKB:=aB (fun w=>rKnown2 (b1,b2,b3) HIB.o w);have HAN:=aB (fun w=>rAnd2 (knVl (a1,a2,a3)) (knVl (b1,b2,b3)) w);have HOF:Hid (∀w,Calls Tryz.prog 98 #[.int .i64 (d2d (knVl (a1,a2,a3)) (knVl (b1,b2,b3)))] w fun e w'=>e= .returned (V k1 k2 k3)/\Bl w w'):=fun w=>by
     have h:=rOf_kVl (d2d (knVl (a1,a2,a3)) (knVl (b1,b2,b3))) (and2_64 _ _) w;rw[hK] at h;exact h
    clear HZR hK e0 e1 e2 f0 f1 f2;go_wp2_with fail;refine wp_region_noPanic (bM (fun B=>B.heap[pa]?=some (.cells #[.int .i64 a1,.int .i64 a2,S a3] 26 (0,0))/\B.heap[pb]?=some (.cells #[.int .i64 b1,.int .i64 b2,S b3] 26 (0,0))) ((.take 0 (.take 2 (.one 1 (.one 3 (.one 4 (.one 5 (.one 6 (.take 7 .done))))))))) (by kernel_rfl) (by kernel_rfl) (by kernel_rfl) (fun _ _ _ _ _ h=>h) (⟨keep_b HD.o.a ((Bl.refl _).drew),keep_b HD.o.b ((Bl.refl _).drew)⟩) ?_);intro wd HWD hY;iterate 2 (refine aI rfl (by rfl) (by intro w hSw;(try dsimp only at hSw);obtain⟨e0,e1,e2⟩:=three3 hSw.1;obtain⟨f0,f1,f2⟩:=three3 hSw.2;go_simp;(try(first |with_reducible rfl|rfl))) ?_;(try simp only[aK,aA,aD,aF]))
    refine aL rfl (fun K hK=>?_);go_simp;(refine(HKA.o _).mono ?_;rintro e w1 ⟨rfl,hb1⟩);go_wp2_with fail;refine hK.o _ _ ((by first |exact hY|exact⟨keep_b hY.1 hb1,keep_b hY.2 hb1⟩|exact⟨keep_b hY.1 hb3,keep_b hY.2 hb3⟩|exact⟨keep_b hY.1 hb5,keep_b hY.2 hb5⟩|exact⟨(hB9.same _ (by omega)).trans hY.1,(hB9.same _ (by omega)).trans hY.2⟩)) ?_;clear hY hK K;intro hY;refine aL rfl (fun K hK=>?_);go_simp;(refine(HKB.o _).mono ?_;rintro e w3 ⟨rfl,hb3⟩);go_wp2_with fail;refine hK.o _ _ ((by first |exact hY|exact⟨keep_b hY.1 hb1,keep_b hY.2 hb1⟩|exact⟨keep_b hY.1 hb3,keep_b hY.2 hb3⟩|exact⟨keep_b hY.1 hb5,keep_b hY.2 hb5⟩|exact⟨(hB9.same _ (by omega)).trans hY.1,(hB9.same _ (by omega)).trans hY.2⟩)) ?_;clear hY hK K;intro hY;refine aL rfl (fun K hK=>?_);go_simp;(refine(HAN.o _).mono ?_;rintro e w4 ⟨rfl,rfl⟩);go_wp2_with fail;refine hK.o _ _ ((by first |exact hY|exact⟨keep_b hY.1 hb1,keep_b hY.2 hb1⟩|exact⟨keep_b hY.1 hb3,keep_b hY.2 hb3⟩|exact⟨keep_b hY.1 hb5,keep_b hY.2 hb5⟩|exact⟨(hB9.same _ (by omega)).trans hY.1,(hB9.same _ (by omega)).trans hY.2⟩)) ?_;clear hY hK K;intro hY;refine aL rfl (fun K hK=>?_);go_simp;(refine(HOF.o _).mono ?_;rintro e w5 ⟨rfl,hb5⟩);go_wp2_with fail;refine hK.o _ _ ((by first |exact hY|exact⟨keep_b hY.1 hb1,keep_b hY.2 hb1⟩|exact⟨keep_b hY.1 hb3,keep_b hY.2 hb3⟩|exact⟨keep_b hY.1 hb5,keep_b hY.2 hb5⟩|exact⟨(hB9.same _ (by omega)).trans hY.1,(hB9.same _ (by omega)).trans hY.2⟩)) ?_;clear hY hK K;intro hY;refine aL rfl (fun K hK=>?_);rw[if_pos (by rfl)];refine bC rfl rfl rfl ((cells3 (k1,k2,k3))) (keep_b HV.o.r (HWD.o.call (hb1.call (hb3.call hb5)))) rfl rfl vlInfo rfl ?_;intro w9 hB9 hX9;refine hK.o _ _ ((by first |exact hY|exact⟨keep_b hY.1 hB91,keep_b hY.2 hB91⟩|exact⟨keep_b hY.1 hB93,keep_b hY.2 hB93⟩|exact⟨keep_b hY.1 hB95,keep_b hY.2 hB95⟩|exact⟨(hB9.same _ (by omega)).trans hY.1,(hB9.same _ (by omega)).trans hY.2⟩)) ?_;clear hY hK K;intro hY;(try simp only[aK])
    refine aI rfl (by rfl) (by intro w hSw;(try dsimp only at hSw);obtain⟨e0,e1,e2⟩:=three3 hSw.1;obtain⟨f0,f1,f2⟩:=three3 hSw.2;go_simp;(try(first |with_reducible rfl|rfl))) ?_;(try simp only[aK,aA,aD,aF])
    refine fO (bF ?_);obtain⟨q0,q1,q2⟩:=three3 hX9;go_wp2;exact bodyPost_ret (v:= .tuple #[VlV (k1,k2,k3),.int .i64 0]) (by simp[results,Tryz.results69,go_sem,q0,q1,q2]) rfl ⟨by rw[HZ2.o],hB9.bl (HV.o.bl.call (HWD.o.call (hb1.call (hb3.call hb5)))) (aH _)⟩
   have g13:(o==13)=false:=(by simpa using h13);by_cases h14:o=14
   ·have g14:(o==14)=true:=by simpa using h14
    obtain⟨⟨k1,k2,k3⟩,hK⟩:∃K,kVl (or2 (knVl (a1,a2,a3)) (knVl (b1,b2,b3)))=K:=⟨_,rfl⟩
    have HZ2:=aB (show Z=((k1,k2,k3),0) from(by rw[HZR.o];unfold restO;rw[if_neg h13,if_pos h14,hK]));have HKA:=aB (fun w=>rKnown2 (a1,a2,a3) HIA.o w);have HKB:=aB (fun w=>rKnown2 (b1,b2,b3) HIB.o w);have HAN:=aB (fun w=>rOr2 (knVl (a1,a2,a3)) (knVl (b1,b2,b3)) w);have HOF:Hid (∀w,Calls Tryz.prog 98 #[.int .i64 (or2 (knVl (a1,a2,a3)) (knVl (b1,b2,b3)))] w fun e w'=>e= .returned (V k1 k2 k3)/\Bl w w'):=fun w=>by
     have h:=rOf_kVl (or2 (knVl (a1,a2,a3)) (knVl (b1,b2,b3))) (or2_64 _ _) w;rw[hK] at h;exact h
    clear HZR hK e0 e1 e2 f0 f1 f2;go_wp2_with fail;refine wp_region_noPanic (bM (fun B=>B.heap[pa]?=some (.cells #[.int .i64 a1,.int .i64 a2,S a3] 26 (0,0))/\B.heap[pb]?=some (.cells #[.int .i64 b1,.int .i64 b2,S b3] 26 (0,0))) ((.take 0 (.take 2 (.one 1 (.one 3 (.one 4 (.one 5 (.one 6 (.take 7 .done))))))))) (by kernel_rfl) (by kernel_rfl) (by kernel_rfl) (fun _ _ _ _ _ h=>h) (⟨keep_b HD.o.a ((Bl.refl _).drew),keep_b HD.o.b ((Bl.refl _).drew)⟩) ?_);intro wd HWD hY;iterate 2 (refine aI rfl (by rfl) (by intro w hSw;(try dsimp only at hSw);obtain⟨e0,e1,e2⟩:=three3 hSw.1;obtain⟨f0,f1,f2⟩:=three3 hSw.2;go_simp;(try(first |with_reducible rfl|rfl))) ?_;(try simp only[aK,aA,aD,aF]))
    refine aL rfl (fun K hK=>?_);go_simp;(refine(HKA.o _).mono ?_;rintro e w1 ⟨rfl,hb1⟩);go_wp2_with fail;refine hK.o _ _ ((by first |exact hY|exact⟨keep_b hY.1 hb1,keep_b hY.2 hb1⟩|exact⟨keep_b hY.1 hb3,keep_b hY.2 hb3⟩|exact⟨keep_b hY.1 hb5,keep_b hY.2 hb5⟩|exact⟨(hB9.same _ (by omega)).trans hY.1,(hB9.same _ (by omega)).trans hY.2⟩)) ?_;clear hY hK K;intro hY;refine aL rfl (fun K hK=>?_);go_simp;(refine(HKB.o _).mono ?_;rintro e w3 ⟨rfl,hb3⟩);go_wp2_with fail;refine hK.o _ _ ((by first |exact hY|exact⟨keep_b hY.1 hb1,keep_b hY.2 hb1⟩|exact⟨keep_b hY.1 hb3,keep_b hY.2 hb3⟩|exact⟨keep_b hY.1 hb5,keep_b hY.2 hb5⟩|exact⟨(hB9.same _ (by omega)).trans hY.1,(hB9.same _ (by omega)).trans hY.2⟩)) ?_;clear hY hK K;intro hY;refine aL rfl (fun K hK=>?_);go_simp;(refine(HAN.o _).mono ?_;rintro e w4 ⟨rfl,rfl⟩);go_wp2_with fail;refine hK.o _ _ ((by first |exact hY|exact⟨keep_b hY.1 hb1,keep_b hY.2 hb1⟩|exact⟨keep_b hY.1 hb3,keep_b hY.2 hb3⟩|exact⟨keep_b hY.1 hb5,keep_b hY.2 hb5⟩|exact⟨(hB9.same _ (by omega)).trans hY.1,(hB9.same _ (by omega)).trans hY.2⟩)) ?_;clear hY hK K;intro hY;refine aL rfl (fun K hK=>?_);go_simp;(refine(HOF.o _).mono ?_;rintro e w5 ⟨rfl,hb5⟩);go_wp2_with fail;refine hK.o _ _ ((by first |exact hY|exact⟨keep_b hY.1 hb1,keep_b hY.2 hb1⟩|exact⟨keep_b hY.1 hb3,keep_b hY.2 hb3⟩|exact⟨keep_b hY.1 hb5,keep_b hY.2 hb5⟩|exact⟨(hB9.same _ (by omega)).trans hY.1,(hB9.same _ (by omega)).trans hY.2⟩)) ?_;clear hY hK K;intro hY;refine aL rfl (fun K hK=>?_);rw[if_pos (by rfl)];refine bC rfl rfl rfl ((cells3 (k1,k2,k3))) (keep_b HV.o.r (HWD.o.call (hb1.call (hb3.call hb5)))) rfl rfl vlInfo rfl ?_;intro w9 hB9 hX9;refine hK.o _ _ ((by first |exact hY|exact⟨keep_b hY.1 hB91,keep_b hY.2 hB91⟩|exact⟨keep_b hY.1 hB93,keep_b hY.2 hB93⟩|exact⟨keep_b hY.1 hB95,keep_b hY.2 hB95⟩|exact⟨(hB9.same _ (by omega)).trans hY.1,(hB9.same _ (by omega)).trans hY.2⟩)) ?_;clear hY hK K;intro hY;(try simp only[aK])
    refine aI rfl (by rfl) (by intro w hSw;(try dsimp only at hSw);obtain⟨e0,e1,e2⟩:=three3 hSw.1;obtain⟨f0,f1,f2⟩:=three3 hSw.2;go_simp;(try(first |with_reducible rfl|rfl))) ?_;(try simp only[aK,aA,aD,aF])
    refine fO (bF ?_);obtain⟨q0,q1,q2⟩:=three3 hX9;go_wp2;exact bodyPost_ret (v:= .tuple #[VlV (k1,k2,k3),.int .i64 0]) (by simp[results,Tryz.results69,go_sem,q0,q1,q2]) rfl ⟨by rw[HZ2.o],hB9.bl (HV.o.bl.call (HWD.o.call (hb1.call (hb3.call hb5)))) (aH _)⟩
   have g14:(o==14)=false:=(by simpa using h14);by_cases h17:o=17\/o=18
   ·have HZ3:=aB (HZR.o.trans (by unfold restO;rw[if_neg h13,if_neg h14,if_pos h17]):Z=(tVl (decide (a1=0)==decide (o=17)),0));by_cases o17:o=17
    ·have g17:(o==17)=true:=by simpa using o17
     rw[decide_eq_true o17] at HZ3;clear h17 o17 h13 h14 HZR;by_cases ha:a1=0
     ·rw[decide_eq_true ha] at HZ3;have ga:(a1==0)=true:=(by simpa using ha);clear ha;have HBO:=aB (fun w=>uBool_any true w);have HZ4:=aB (HZ3.o.trans (show _=(((1,1,[]):Vl),(0:Int)) from rfl));go_wp2_with fail;refine(HBO.o _).mono ?_;rintro e w3 ⟨rfl,hb3⟩;have HV3:=aB (HV.o.call hb3);clear hb3 e0 e1 e2 f0 f1 f2;go_wp2_with (refine bA (g:=W.heap.size) (i:=0) rfl rfl rfl rfl (cells3 (1,1,[])) (HV3.o).r rfl rfl vlInfo rfl ?_)
      intro w9 hB9 hX9;obtain⟨q0,q1,q2⟩:=three3 hX9;go_wp2;refine bodyPost_ret (v:= .tuple #[VlV (1,1,[]),.int .i64 0]) (by simp[results,Tryz.results69,go_sem,q0,q1,q2]) rfl ⟨?_,hB9.bl (HV3.o).bl (by omega)⟩;rw[HZ4.o]
     ·rw[decide_eq_false ha] at HZ3;have ga:(a1==0)=false:=(by simpa using ha);clear ha;have HBO:=aB (fun w=>uBool_any false w);have HZ4:=aB (HZ3.o.trans (show _=(((1,0,[]):Vl),(0:Int)) from rfl));go_wp2_with fail;refine(HBO.o _).mono ?_;rintro e w3 ⟨rfl,hb3⟩;have HV3:=aB (HV.o.call hb3);clear hb3 e0 e1 e2 f0 f1 f2;go_wp2_with (refine bA (g:=W.heap.size) (i:=0) rfl rfl rfl rfl (cells3 (1,0,[])) (HV3.o).r rfl rfl vlInfo rfl ?_)
      intro w9 hB9 hX9;obtain⟨q0,q1,q2⟩:=three3 hX9;go_wp2;refine bodyPost_ret (v:= .tuple #[VlV (1,0,[]),.int .i64 0]) (by simp[results,Tryz.results69,go_sem,q0,q1,q2]) rfl ⟨?_,hB9.bl (HV3.o).bl (by omega)⟩;rw[HZ4.o]
    ·have g17:(o==17)=false:=by simpa using o17
     have g18:(o==18)=true:=by rcases h17 with h|h;exact absurd h o17;simpa using h
     rw[decide_eq_false o17] at HZ3;clear h17 o17 h13 h14 HZR;by_cases ha:a1=0
     ·rw[decide_eq_true ha] at HZ3;have ga:(a1==0)=true:=(by simpa using ha);clear ha;have HBO:=aB (fun w=>uBool_any false w);have HZ4:=aB (HZ3.o.trans (show _=(((1,0,[]):Vl),(0:Int)) from rfl));go_wp2_with fail;refine(HBO.o _).mono ?_;rintro e w3 ⟨rfl,hb3⟩;have HV3:=aB (HV.o.call hb3);clear hb3 e0 e1 e2 f0 f1 f2;go_wp2_with (refine bA (g:=W.heap.size) (i:=0) rfl rfl rfl rfl (cells3 (1,0,[])) (HV3.o).r rfl rfl vlInfo rfl ?_)
      intro w9 hB9 hX9;obtain⟨q0,q1,q2⟩:=three3 hX9;go_wp2;refine bodyPost_ret (v:= .tuple #[VlV (1,0,[]),.int .i64 0]) (by simp[results,Tryz.results69,go_sem,q0,q1,q2]) rfl ⟨?_,hB9.bl (HV3.o).bl (by omega)⟩;rw[HZ4.o]
     ·rw[decide_eq_false ha] at HZ3;have ga:(a1==0)=false:=(by simpa using ha);clear ha;have HBO:=aB (fun w=>uBool_any true w);have HZ4:=aB (HZ3.o.trans (show _=(((1,1,[]):Vl),(0:Int)) from rfl));go_wp2_with fail;refine(HBO.o _).mono ?_;rintro e w3 ⟨rfl,hb3⟩;have HV3:=aB (HV.o.call hb3);clear hb3 e0 e1 e2 f0 f1 f2;go_wp2_with (refine bA (g:=W.heap.size) (i:=0) rfl rfl rfl rfl (cells3 (1,1,[])) (HV3.o).r rfl rfl vlInfo rfl ?_)
      intro w9 hB9 hX9;obtain⟨q0,q1,q2⟩:=three3 hX9;go_wp2;refine bodyPost_ret (v:= .tuple #[VlV (1,1,[]),.int .i64 0]) (by simp[results,Tryz.results69,go_sem,q0,q1,q2]) rfl ⟨?_,hB9.bl (HV3.o).bl (by omega)⟩;rw[HZ4.o]
   have g17:(o==17)=false:=(by simpa using(fun h:o=17=>h17 (.inl h)));have g18:(o==18)=false:=(by simpa using(fun h:o=18=>h17 (.inr h)));have HT:=aB (HZR.o.trans (rest_tail h13 h14 (fun h=>h17 (.inl h)) (fun h=>h17 (.inr h))));unfold restT at HT;clear h13 h14 h17 HZR;cases nul
   case true=>
    have HZ2:=aB (HT.o.trans (if_pos rfl));clear HT;go_wp2_with (refine bA (g:=W.heap.size) (i:=0) rfl rfl rfl rfl (cells3 zVl) (HV.o).r rfl rfl vlInfo rfl ?_)
    intro w9 hB9 hX9;obtain⟨q0,q1,q2⟩:=three3 hX9;go_wp2;refine bodyPost_ret (v:= .tuple #[VlV zVl,.int .i64 0]) (by simp[results,Tryz.results69,go_sem,q0,q1,q2]) rfl ⟨?_,hB9.bl (HV.o).bl (by omega)⟩;rw[HZ2.o]
   have HT:=aB (HT.o.trans (if_neg (by decide)));by_cases h16:o=16
   ·have g16:(o==16)=true:=by simpa using h16
    have HZ3:=aB (HT.o.trans (if_pos h16));obtain⟨⟨k1,k2,k3⟩,hK⟩:∃K,kVl (c9p (knVl (a1,a2,a3)))=K:=⟨_,rfl⟩
    rw[hK] at HZ3;have HKA:=aB (fun w=>rKnown2 (a1,a2,a3) HIA.o w);have HNO:=aB (fun w=>rNot2 (knVl (a1,a2,a3)) w);have HOF:Hid (∀w,Calls Tryz.prog 98 #[.int .i64 (c9p (knVl (a1,a2,a3)))] w fun e w'=>e= .returned (V k1 k2 k3)/\Bl w w'):=fun w=>by
     have h:=rOf_kVl (c9p (knVl (a1,a2,a3))) (not2_64 _) w;rw[hK] at h;exact h
    clear h16 HT hK;go_wp2_with fail;refine(HKA.o _).mono ?_;rintro e w1 ⟨rfl,hb1⟩;have HV1:=aB (HV.o.call hb1);clear hb1 e0 e1 e2 f0 f1 f2;go_wp2_with fail;refine(HNO.o _).mono ?_;rintro e w2 ⟨rfl,rfl⟩;go_wp2_with fail;refine(HOF.o _).mono ?_;rintro e w3 ⟨rfl,hb3⟩;have HV3:=aB (HV1.o.call hb3);clear hb3;go_wp2_with (refine bA (g:=W.heap.size) (i:=0) rfl rfl rfl rfl (cells3 (k1,k2,k3)) (HV3.o).r rfl rfl vlInfo rfl ?_)
    intro w9 hB9 hX9;obtain⟨q0,q1,q2⟩:=three3 hX9;go_wp2;refine bodyPost_ret (v:= .tuple #[VlV (k1,k2,k3),.int .i64 0]) (by simp[results,Tryz.results69,go_sem,q0,q1,q2]) rfl ⟨?_,hB9.bl (HV3.o).bl (by omega)⟩;rw[HZ3.o]
   have g16:(o==16)=false:=(by simpa using h16);have HT:=aB (HT.o.trans (if_neg h16));by_cases h6:o=6
   ·have g6:(o==6)=true:=by simpa using h6
    have HZ3:=aB (HT.o.trans (if_pos h6));have hla:a3.length<=1000:=HLA.o;have hlb:b3.length<=1000:=HLB.o;clear h6 h16 HT;by_cases hl:1000<a3.length+b3.length
    ·have HZ4:=aB (HZ3.o.trans (if_pos hl));have hl2:(1000:Int)<(a3.length:Int)+(b3.length:Int):=(by omega);clear hl;go_wp2_with (refine bA (g:=W.heap.size) (i:=0) rfl rfl rfl rfl (cells3 zVl) (HV.o).r rfl rfl vlInfo rfl ?_)
     intro w9 hB9 hX9;obtain⟨q0,q1,q2⟩:=three3 hX9;go_wp2;refine bodyPost_ret (v:= .tuple #[VlV zVl,.int .i64 3]) (by simp[results,Tryz.results69,go_sem,q0,q1,q2]) rfl ⟨?_,hB9.bl (HV.o).bl (by omega)⟩;rw[HZ4.o]
    ·have HZ4:=aB (HZ3.o.trans (if_neg hl));have hl2:¬(1000:Int)<(a3.length:Int)+(b3.length:Int):=(by omega);have hl3:a3.length+b3.length<=100000000:=(by omega);clear hl;go_wp2_with (refine bA (g:=W.heap.size) (i:=0) rfl rfl rfl rfl (cells3 (a1,0,a3++b3)) (HV.o).r rfl rfl vlInfo rfl ?_)
     intro w9 hB9 hX9;obtain⟨q0,q1,q2⟩:=three3 hX9;go_wp2;refine bodyPost_ret (v:= .tuple #[VlV (a1,0,a3++b3),.int .i64 0]) (by simp[results,Tryz.results69,go_sem,q0,q1,q2]) rfl ⟨?_,hB9.bl (HV.o).bl (by omega)⟩;rw[HZ4.o]
   have g6:(o==6)=false:=(by simpa using h6);have HT:=aB (HT.o.trans (if_neg h6));by_cases h19:o=19
   ·have g19:(o==19)=true:=by simpa using h19
    have HZ3:=aB (HT.o.trans (if_pos h19));clear h6 h16 h19 HT;go_wp2_with (refine bA (g:=W.heap.size) (i:=0) rfl rfl rfl rfl (cells3 (2,(a3.length:Int),[])) (HV.o).r rfl rfl vlInfo rfl ?_)
    intro w9 hB9 hX9;obtain⟨q0,q1,q2⟩:=three3 hX9;go_wp2;refine bodyPost_ret (v:= .tuple #[VlV (2,(a3.length:Int),[]),.int .i64 0]) (by simp[results,Tryz.results69,go_sem,q0,q1,q2]) rfl ⟨?_,hB9.bl (HV.o).bl (by omega)⟩;rw[HZ3.o]
   have g19:(o==19)=false:=(by simpa using h19);have HT:=aB (HT.o.trans (if_neg h19));by_cases h7:7<=o/\o<=12
   ·have g7:decide (7<=o)=true:=by simpa using h7.1
    have g12:decide (o<=12)=true:=(by simpa using h7.2);have k7:7<=o:=h7.1;have k12:o<=12:=h7.2;have HZ3:=aB (HT.o.trans (if_pos h7));have HOR:=aB (fun w=>rOrder_any a1 a2 a3 b1 b2 b3 HIA.o.1.1 HIA.o.1.2 HIB.o.1.1 HIB.o.1.2 w);obtain⟨c,hc⟩:∃c,ordVl (a1,a2,a3) (b1,b2,b3)=c:=⟨_,rfl⟩
    have hc2:d2h a1 a2 a3 b1 b2 b3=c:=hc;rw[hc] at HZ3;rw[hc2] at HOR;have HTR:=aB (fun w=>utruth_any o c w);obtain⟨tb,htb⟩:∃tb,truthO o c=tb:=⟨_,rfl⟩
    rw[htb] at HZ3 HTR;have HBO:=aB (fun w=>uBool_any tb w);obtain⟨⟨k1,k2,k3⟩,hK⟩:∃K,tVl tb=K:=⟨_,rfl⟩
    rw[hK] at HZ3 HBO;clear h6 h16 h19 HT h7 hc hc2 htb hK;go_wp2_with fail;refine(HOR.o _).mono ?_;rintro e w1 ⟨rfl,hb1⟩;have HV1:=aB (HV.o.call hb1);clear hb1 e0 e1 e2 f0 f1 f2;go_wp2_with fail;refine(HTR.o _).mono ?_;rintro e w2 ⟨rfl,rfl⟩;go_wp2_with fail;refine(HBO.o _).mono ?_;rintro e w3 ⟨rfl,hb3⟩;have HV3:=aB (HV1.o.call hb3);clear hb3;go_wp2_with (refine bA (g:=W.heap.size) (i:=0) rfl rfl rfl rfl (cells3 (k1,k2,k3)) (HV3.o).r rfl rfl vlInfo rfl ?_)
    intro w9 hB9 hX9;obtain⟨q0,q1,q2⟩:=three3 hX9;go_wp2;refine bodyPost_ret (v:= .tuple #[VlV (k1,k2,k3),.int .i64 0]) (by simp[results,Tryz.results69,go_sem,q0,q1,q2]) rfl ⟨?_,hB9.bl (HV3.o).bl (by omega)⟩;rw[HZ3.o]
   have HT:=aB (HT.o.trans (if_neg h7));have HWH:=aB (fun w=>uwhole_any o a2 b2 HIA.o.2 HIB.o.2 w);obtain⟨⟨⟨r1,r2,r3⟩,c⟩,hR⟩:∃R,wholeO o a2 b2=R:=⟨_,rfl⟩
   have hsh:=whole_shape hR;unfold wholeE at HWH;simp only[hR] at HT HWH;have HWW:Hid ((7<=o/\¬o<=12)\/¬7<=o):=by
    show _\/_;omega
   clear h6 h16 h19 h7 hR;rcases HWW.o with⟨k7,k12⟩|k7
   ·have g7:decide (7<=o)=true:=by simpa using k7
    have g12:decide (o<=12)=false:=(by simpa using k12);go_wp2_with fail;refine(HWH.o _).mono ?_;rintro e w1 ⟨rfl,rfl⟩;rcases hsh with⟨rfl,rfl,rfl⟩|⟨hc,rfl,rfl,rfl⟩
    ·skip
     go_wp2_with (refine bA (g:=W.heap.size) (i:=0) rfl rfl rfl rfl (cells3 (2,r2,[])) (HV.o).r rfl rfl vlInfo rfl ?_)
     intro w9 hB9 hX9;obtain⟨q0,q1,q2⟩:=three3 hX9;go_wp2;refine bodyPost_ret (v:= .tuple #[VlV (2,r2,[]),.int .i64 0]) (by simp[results,Tryz.results69,go_sem,q0,q1,q2]) rfl ⟨?_,hB9.bl (HV.o).bl (by omega)⟩;rw[HT.o]
    ·have gc:(c != 0)=true:=by simpa using hc
     clear hc;go_wp2_with (refine bA (g:=W.heap.size) (i:=0) rfl rfl rfl rfl (cells3 (0,0,[])) (HV.o).r rfl rfl vlInfo rfl ?_)
     intro w9 hB9 hX9;obtain⟨q0,q1,q2⟩:=three3 hX9;go_wp2;refine bodyPost_ret (v:= .tuple #[VlV (0,0,[]),.int .i64 c]) (by simp[results,Tryz.results69,go_sem,q0,q1,q2]) rfl ⟨?_,hB9.bl (HV.o).bl (by omega)⟩;rw[HT.o]
   ·have g7:decide (7<=o)=false:=by simpa using k7
    go_wp2_with fail;refine(HWH.o _).mono ?_;rintro e w1 ⟨rfl,rfl⟩;rcases hsh with⟨rfl,rfl,rfl⟩|⟨hc,rfl,rfl,rfl⟩
    ·skip
     go_wp2_with (refine bA (g:=W.heap.size) (i:=0) rfl rfl rfl rfl (cells3 (2,r2,[])) (HV.o).r rfl rfl vlInfo rfl ?_)
     intro w9 hB9 hX9;obtain⟨q0,q1,q2⟩:=three3 hX9;go_wp2;refine bodyPost_ret (v:= .tuple #[VlV (2,r2,[]),.int .i64 0]) (by simp[results,Tryz.results69,go_sem,q0,q1,q2]) rfl ⟨?_,hB9.bl (HV.o).bl (by omega)⟩;rw[HT.o]
    ·have gc:(c != 0)=true:=by simpa using hc
     clear hc;go_wp2_with (refine bA (g:=W.heap.size) (i:=0) rfl rfl rfl rfl (cells3 (0,0,[])) (HV.o).r rfl rfl vlInfo rfl ?_)
     intro w9 hB9 hX9;obtain⟨q0,q1,q2⟩:=three3 hX9;go_wp2;refine bodyPost_ret (v:= .tuple #[VlV (0,0,[]),.int .i64 c]) (by simp[results,Tryz.results69,go_sem,q0,q1,q2]) rfl ⟨?_,hB9.bl (HV.o).bl (by omega)⟩;rw[HT.o]
end
end Go.Proofs.YtdbkbfkpmnpldaaGreatDoor
