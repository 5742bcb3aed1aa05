/- Texts TG TH. -/
import Derived.Test.YtohlomdapelgeaaGreatDoorDN
import Derived.Test.YtohlomdapelgeaaGreatDoorCM
import Derived.Test.YtohlomdapelgeaaGreatDoorDF
namespace Go.Proofs.YtohlomdapelgeaaGreatDoor
open _root_.Go.Proofs.Tryz
open Go.RowKit
open _root_.Go.Act renaming put->aK
open _root_.And renaming intro->bT
open _root_.Go.Lib renaming hid->aB
open _root_.List renaming cons_append->bE,nil_append->cB,setIfInBounds_toArray->aA,set_cons_succ->aF,set_cons_zero->aD
open _root_.Nat renaming le_refl->aH
open NoPanic renaming normal->bF
open _root_.Go.Region renaming wanted->jG
set_option maxRecDepth 100000
set_option maxHeartbeats 16000000
section
section
variable {a b:Wr} {p q:Nat->Prop} {s u:SlW}
theorem zSame_any(h:WrSz a)(W:World)(hp:PartsW p W a s)(hq:PartsW q W b u):
  eg 13 #[.agg (cWr a s).toArray,.agg (cWr b u).toArray] W fun e w'=>e= .returned (.bool (sameW a b))/\Bl W w':=by
 have HC:Hid (∀w,Bl W w->eg 33 #[s.cols,u.cols] w fun e w'=>e= .returned (.bool (a.cols==b.cols))/\Bl w w'):=fun w hb=>zequalStr_any h.lc (hp.cols.bl hb) (hq.cols.bl hb);have HR:Hid (∀w,Bl W w->eg 34 #[s.rows,u.rows,.func (.func 35) #[] #[]] w fun e w'=>e= .returned (.bool (samesBy lQ a.rows b.rows))/\Bl w w'):=fun w hb=>zequalRow_any enters_zsameRow h.lr (hp.rows.bl hb) (hq.rows.bl hb) fun y hy z W' s1 s2 _ h1 h2=>by
  obtain⟨_,e1,h1⟩:=h1;obtain⟨_,e2,h2⟩:=h2;obtain rfl:s1=_:=bp;obtain rfl:s2=_:=(by simpa using e2);exact zsameRow_any (h.rows y hy).1 (fun x hx=>((h.rows y hy).2 x hx).parts) W' _ _ h1.reads h2.reads
 have HQ:Hid (∀w,Bl W w->eg 36 #[.agg (quC a.query s.si s.sj s.sw s.sg s.sh s.so).toArray,.agg (quC b.query u.si u.sj u.sw u.sg u.sh u.so).toArray] w fun e w'=>e= .returned (.bool (sameQ a.query b.query))/\Bl w w'):=fun w hb=>qSame_any h.small ⟨_,_,_,_,_,_,rfl,lowQ (hp.query.bl hb)⟩ ⟨_,_,_,_,_,_,rfl,lowQ (hq.query.bl hb)⟩;have HF0:Hid (∀w,Bl W w->eg 33 #[s.conf,u.conf] w fun e w'=>e= .returned (.bool (a.conf==b.conf))/\Bl w w'):=fun w hb=>zequalStr_any h.lf (hp.conf.bl hb) (hq.conf.bl hb);have HT:Hid (∀w,Bl W w->eg 37 #[s.sets,u.sets,.func (.func 38) #[] #[]] w fun e w'=>e= .returned (.bool (samesBy sameSt a.sets b.sets))/\Bl w w'):=fun w hb=>zequalSet_any enters_zsameSet h.ls (hp.sets.bl hb) (hq.sets.bl hb) fun y hy z W' ca cb _ h1 h2=>by
  obtain⟨s1,rfl,h1⟩:=h1;obtain⟨s2,rfl,h2⟩:=h2;exact zsameSet_any (h.sets y hy).x.parts W' s1 s2 h1.reads h2.reads
 have HW:Hid (∀w,Bl W w->eg 39 #[.agg (qD a.wher s.wher).toArray,.agg (qD b.wher u.wher).toArray] w fun e w'=>e= .returned (.bool (kR a.wher b.wher))/\Bl w w'):=fun w hb=>b7d _ _ _ (aH _) h.wher.parts w _ _ ⟨_,rfl,hp.wher.reads.bl hb⟩ ⟨_,rfl,hq.wher.reads.bl hb⟩;have HO:Hid (∀w,Bl W w->eg 39 #[.agg (qD a.on s.on).toArray,.agg (qD b.on u.on).toArray] w fun e w'=>e= .returned (.bool (kR a.on b.on))/\Bl w w'):=fun w hb=>b7d _ _ _ (aH _) h.on.parts w _ _ ⟨_,rfl,hp.on.reads.bl hb⟩ ⟨_,rfl,hq.on.reads.bl hb⟩;have HN:Hid (∀w,Bl W w->eg 40 #[s.whens,u.whens,.func (.func 41) #[] #[]] w fun e w'=>e= .returned (.bool (samesBy sameWn a.whens b.whens))/\Bl w w'):=fun w hb=>zequalWhen_any enters_zsameWhen h.lw (hp.whens.bl hb) (hq.whens.bl hb) fun y hy z W' ca cb _ h1 h2=>zsameWhen_any (h.whens y hy) W' h1 h2;have HI:Hid (∀w,Bl W w->eg 42 #[s.ret,u.ret,.func (.func 43) #[] #[]] w fun e w'=>e= .returned (.bool (samesBy sameIt a.ret b.ret))/\Bl w w'):=fun w hb=>by
  obtain⟨ra,rc,e1,-⟩:=hp.ret.shape;obtain⟨rb,rd,e2,-⟩:=hq.ret.shape;have g1:=hp.ret.bl hb;have g2:=hq.ret.bl hb;rw[e1] at g1⊢;rw[e2] at g2⊢;exact equalI_any enters_zsameItem h.lt g1 g2 fun y hy z W' s1 s2 _ h1 h2=>zsameItem_any (h.ret y hy).x.parts W' s1 s2 h1.reads h2.reads
 obtain⟨R,HRR⟩:∃R,Hid (R=sameW a b):=⟨_,rfl⟩
 rw[<-HRR.o];have HE:Hid (R=_):=HRR.o.trans (by unfold sameW;rfl);clear HRR h hp hq;go_enter func13,ntmps13;simp only[List.append_eq,bE,cB];go_wp2_with (refine wpList_boxO rfl 46 (.tmp 0) rfl (cWr a s) rfl ?_)
 intro w0 hb0 hX0;have HX00:=aB hX0;have HB00:=aB hb0;have hz0:W.heap.size<w0.heap.size:=lt_of_heap hX0;clear hb0 hX0;go_wp2_with (refine wpList_boxO rfl 46 (.tmp 1) rfl (cWr b u) rfl ?_)
 intro w1 hb1 hX1;have HX:=aB (bT ((hb1.block _ hz0).trans HX00.o) hX1);have HB:=aB (HB00.o.call hb1);obtain⟨g2,hg2⟩:∃g,w0.heap.size=g:=⟨_,rfl⟩
 rw[hg2] at HX⊢;clear hb1 hX1 HX00 HB00 hz0 hg2;have c0:=cell_of (i:=0) HX.o.1 rfl;have d0:=cell_of (i:=0) HX.o.2 rfl;have c1:=cell_of (i:=1) HX.o.1 rfl;have d1:=cell_of (i:=1) HX.o.2 rfl;have c2:=cell_of (i:=2) HX.o.1 rfl;have d2:=cell_of (i:=2) HX.o.2 rfl;have c3:=cell_of (i:=3) HX.o.1 rfl;have d3:=cell_of (i:=3) HX.o.2 rfl;by_cases e1:a.kind=b.kind
 case neg=>
  have HF:=aB (show R=false from by rw[HE.o];simp[sameSo,e1]);have hb1:(a.kind==b.kind)=false:=bp;clear e1 HE;go_wp2;go_ret;exact⟨by rw[HF.o];first |rfl|simp,HB.o⟩
 have hbe1:(a.kind==b.kind)=true:=by simpa using e1
 replace HE:=aB (HE.o.trans (by rw[hbe1]))
 clear e1;by_cases f1:a.into.t=b.into.t
 case neg=>
  have HF:=aB (show R=false from by rw[HE.o];simp[sameSo,f1]);have hb1:(a.into.t==b.into.t)=false:=cq;clear f1 HE;go_wp2;go_ret;exact⟨by rw[HF.o];first |rfl|simp,HB.o⟩
 have hbf1:(a.into.t==b.into.t)=true:=cq;by_cases f2:a.into.al=b.into.al
 case neg=>
  have HF:=aB (show R=false from by rw[HE.o];simp[sameSo,f2]);have hb1:(a.into.al==b.into.al)=false:=(by simpa using f2);clear f2 HE;go_wp2;go_ret;exact⟨by rw[HF.o];first |rfl|simp,HB.o⟩
 have hbf2:(a.into.al==b.into.al)=true:=by simpa using f2
 replace HE:=aB (HE.o.trans (by rw[show sameSo a.into b.into=true from by simp[sameSo,f1,f2]]))
 clear f1 f2;go_wp2_with fail;refine(HC.o _ HB.o).mono ?_;clear c0 c1 c2 c3 d0 d1 d2 d3 hbe1 hbf1 hbf2 HC;rintro e w9 ⟨rfl,hb⟩
 replace HB:=aB (HB.o.call hb)
 replace HX:=aB (bT ((hb.block _ (lt_of_heap HX.o.1)).trans HX.o.1) ((hb.block _ (lt_of_heap HX.o.2)).trans HX.o.2))
 clear hb;cases hs:(a.cols==b.cols)
 ·have HF:=aB (show R=false from by rw[HE.o];simp[hs]);clear hs HE;go_wp2;go_ret;exact⟨by rw[HF.o];first |rfl|simp,HB.o⟩
 replace HE:=aB (HE.o.trans bd)
 clear hs;have c4:=cell_of (i:=4) HX.o.1 rfl;have d4:=cell_of (i:=4) HX.o.2 rfl;go_wp2_with fail;refine(HR.o _ HB.o).mono ?_;clear c4 d4 HR;rintro e w9 ⟨rfl,hb⟩
 replace HB:=aB (HB.o.call hb)
 replace HX:=aB (bT ((hb.block _ (lt_of_heap HX.o.1)).trans HX.o.1) ((hb.block _ (lt_of_heap HX.o.2)).trans HX.o.2))
 clear hb;cases hs:(samesBy lQ a.rows b.rows)
 ·have HF:=aB (show R=false from by rw[HE.o];simp[hs]);clear hs HE;go_wp2;go_ret;exact⟨by rw[HF.o];first |rfl|simp,HB.o⟩
 replace HE:=aB (HE.o.trans bd)
 clear hs;have c5:=cell_of (i:=5) HX.o.1 rfl;have d5:=cell_of (i:=5) HX.o.2 rfl;by_cases e5:a.hasQ=b.hasQ
 case neg=>
  have HF:=aB (show R=false from by rw[HE.o];simp[sameSo,e5]);have hb1:(a.hasQ==b.hasQ)=false:=(by simpa using e5);clear e5 HE;go_wp2;go_ret;exact⟨by rw[HF.o];first |rfl|simp,HB.o⟩
 have hbe5:(a.hasQ==b.hasQ)=true:=by simpa using e5
 replace HE:=aB (HE.o.trans (by rw[hbe5]))
 clear e5;go_wp2_with (first |(go_big_want;refine wp_load_mid 41 (.tmp 39) rfl W.heap.size 6 rfl (quC a.query s.si s.sj s.sw s.sg s.sh s.so) _ (range_of HX.o.1 rfl) underlying41 rfl tC ?_)|(go_big_want;refine wp_load_mid 41 (.tmp 41) rfl g2 6 rfl (quC b.query u.si u.sj u.sw u.sg u.sh u.so) _ (range_of HX.o.2 rfl) underlying41 rfl tC ?_))
 refine(HQ.o _ HB.o).mono ?_;clear c5 d5 hbe5 HQ;rintro e w9 ⟨rfl,hb⟩
 replace HB:=aB (HB.o.call hb)
 replace HX:=aB (bT ((hb.block _ (lt_of_heap HX.o.1)).trans HX.o.1) ((hb.block _ (lt_of_heap HX.o.2)).trans HX.o.2))
 clear hb;cases hs:(sameQ a.query b.query)
 ·have HF:=aB (show R=false from by rw[HE.o];simp[hs]);clear hs HE;go_wp2;go_ret;exact⟨by rw[HF.o];first |rfl|simp,HB.o⟩
 replace HE:=aB (HE.o.trans bd)
 clear hs;have c30:=cell_of (i:=30) HX.o.1 rfl;have d30:=cell_of (i:=30) HX.o.2 rfl;go_wp2_with fail;refine(HF0.o _ HB.o).mono ?_;clear c30 d30 HF0;rintro e w9 ⟨rfl,hb⟩
 replace HB:=aB (HB.o.call hb)
 replace HX:=aB (bT ((hb.block _ (lt_of_heap HX.o.1)).trans HX.o.1) ((hb.block _ (lt_of_heap HX.o.2)).trans HX.o.2))
 clear hb;cases hs:(a.conf==b.conf)
 ·have HF:=aB (show R=false from by rw[HE.o];simp[hs]);clear hs HE;go_wp2;go_ret;exact⟨by rw[HF.o];first |rfl|simp,HB.o⟩
 replace HE:=aB (HE.o.trans bd)
 clear hs;have c31:=cell_of (i:=31) HX.o.1 rfl;have d31:=cell_of (i:=31) HX.o.2 rfl;have c32:=cell_of (i:=32) HX.o.1 rfl;have d32:=cell_of (i:=32) HX.o.2 rfl;by_cases e7:a.act=b.act
 case neg=>
  have HF:=aB (show R=false from by rw[HE.o];simp[sameSo,e7]);have hb1:(a.act==b.act)=false:=(by simpa using e7);clear e7 HE;go_wp2;go_ret;exact⟨by rw[HF.o];first |rfl|simp,HB.o⟩
 have hbe7:(a.act==b.act)=true:=by simpa using e7
 replace HE:=aB (HE.o.trans (by rw[hbe7]))
 clear e7;go_wp2_with fail;refine(HT.o _ HB.o).mono ?_;clear c31 d31 c32 d32 hbe7 HT;rintro e w9 ⟨rfl,hb⟩
 replace HB:=aB (HB.o.call hb)
 replace HX:=aB (bT ((hb.block _ (lt_of_heap HX.o.1)).trans HX.o.1) ((hb.block _ (lt_of_heap HX.o.2)).trans HX.o.2))
 clear hb;cases hs:(samesBy sameSt a.sets b.sets)
 ·have HF:=aB (show R=false from by rw[HE.o];simp[hs]);clear hs HE;go_wp2;go_ret;exact⟨by rw[HF.o];first |rfl|simp,HB.o⟩
 replace HE:=aB (HE.o.trans bd)
 clear hs;go_wp2_with (first |(go_big_want;refine wp_load_mid 38 (.tmp 67) rfl W.heap.size 33 rfl (qD a.wher s.wher) _ (range_of HX.o.1 rfl) underlying38 rfl d4b ?_)|(go_big_want;refine wp_load_mid 38 (.tmp 69) rfl g2 33 rfl (qD b.wher u.wher) _ (range_of HX.o.2 rfl) underlying38 rfl d4b ?_))
 refine(HW.o _ HB.o).mono ?_;clear HW;rintro e w9 ⟨rfl,hb⟩
 replace HB:=aB (HB.o.call hb)
 replace HX:=aB (bT ((hb.block _ (lt_of_heap HX.o.1)).trans HX.o.1) ((hb.block _ (lt_of_heap HX.o.2)).trans HX.o.2))
 clear hb;cases hs:(kR a.wher b.wher)
 ·have HF:=aB (show R=false from by rw[HE.o];simp[hs]);clear hs HE;go_wp2;go_ret;exact⟨by rw[HF.o];first |rfl|simp,HB.o⟩
 replace HE:=aB (HE.o.trans bd)
 clear hs;have c41:=cell_of (i:=41) HX.o.1 rfl;have d41:=cell_of (i:=41) HX.o.2 rfl;have c42:=cell_of (i:=42) HX.o.1 rfl;have d42:=cell_of (i:=42) HX.o.2 rfl;by_cases f1:a.using'.t=b.using'.t
 case neg=>
  have HF:=aB (show R=false from by rw[HE.o];simp[sameSo,f1]);have hb1:(a.using'.t==b.using'.t)=false:=cq;clear f1 HE;go_wp2;go_ret;exact⟨by rw[HF.o];first |rfl|simp,HB.o⟩
 have hbf1:(a.using'.t==b.using'.t)=true:=cq;by_cases f2:a.using'.al=b.using'.al
 case neg=>
  have HF:=aB (show R=false from by rw[HE.o];simp[sameSo,f2]);have hb1:(a.using'.al==b.using'.al)=false:=(by simpa using f2);clear f2 HE;go_wp2;go_ret;exact⟨by rw[HF.o];first |rfl|simp,HB.o⟩
 have hbf2:(a.using'.al==b.using'.al)=true:=by simpa using f2
 replace HE:=aB (HE.o.trans (by rw[show sameSo a.using' b.using'=true from by simp[sameSo,f1,f2]]))
 clear f1 f2;go_wp2_with (first |(go_big_want;refine wp_load_mid 38 (.tmp 81) rfl W.heap.size 43 rfl (qD a.on s.on) _ (range_of HX.o.1 rfl) underlying38 rfl d4b ?_)|(go_big_want;refine wp_load_mid 38 (.tmp 83) rfl g2 43 rfl (qD b.on u.on) _ (range_of HX.o.2 rfl) underlying38 rfl d4b ?_))
 refine(HO.o _ HB.o).mono ?_;clear c41 d41 c42 d42 hbf1 hbf2 HO;rintro e w9 ⟨rfl,hb⟩
 replace HB:=aB (HB.o.call hb)
 replace HX:=aB (bT ((hb.block _ (lt_of_heap HX.o.1)).trans HX.o.1) ((hb.block _ (lt_of_heap HX.o.2)).trans HX.o.2))
 clear hb;cases hs:(kR a.on b.on)
 ·have HF:=aB (show R=false from by rw[HE.o];simp[hs]);clear hs HE;go_wp2;go_ret;exact⟨by rw[HF.o];first |rfl|simp,HB.o⟩
 replace HE:=aB (HE.o.trans bd)
 clear hs;have c51:=cell_of (i:=51) HX.o.1 rfl;have d51:=cell_of (i:=51) HX.o.2 rfl;go_wp2_with fail;refine(HN.o _ HB.o).mono ?_;clear c51 d51 HN;rintro e w9 ⟨rfl,hb⟩
 replace HB:=aB (HB.o.call hb)
 replace HX:=aB (bT ((hb.block _ (lt_of_heap HX.o.1)).trans HX.o.1) ((hb.block _ (lt_of_heap HX.o.2)).trans HX.o.2))
 clear hb;cases hs:(samesBy sameWn a.whens b.whens)
 ·have HF:=aB (show R=false from by rw[HE.o];simp[hs]);clear hs HE;go_wp2;go_ret;exact⟨by rw[HF.o];first |rfl|simp,HB.o⟩
 replace HE:=aB (HE.o.trans bd)
 clear hs;have c52:=cell_of (i:=52) HX.o.1 rfl;have d52:=cell_of (i:=52) HX.o.2 rfl;go_wp2_with fail;refine(HI.o _ HB.o).mono ?_;rintro e w8 ⟨rfl,hb⟩;go_wp2;go_ret;exact⟨by rw[HE.o];simp,HB.o.call hb⟩
end
end
section
theorem slStInfo:(prog.info? 43).map (·.size)=some 1:=by kernel_rfl
theorem slWnInfo:(prog.info? 44).map (·.size)=some 1:=by kernel_rfl
section
variable {w:Wr} {p:Nat->Prop} {s:SlW}
def BareP(p:Nat->Prop)(W:World)(w:Wr)(e:Ending)(w':World):Prop:=(∃s',e= .returned (.agg (cWr (bareW w) s').toArray)/\PartsW p w' (bareW w) s')/\Bl W w'
theorem parts_bare0{p:Nat->Prop}{W:World}{k:Int}{i:So}{r:List It}{v:Value}(h:d2p fIt p W v r):PartsW p W {zeroW with kind:=k,into:=i,ret:=r} {nilW with ret:=v}:=
 ⟨.nil _ _ _ _,.nil _ _ _ _,(parts_zeroW p W).query,.nil _ _ _ _,.nil _ _ _ _,.nil _ _ _ _,.nil _ _ _ _,.nil _ _ _ _,h⟩
theorem zbare_any(W:World)(hp:PartsW p W w s):eg 56 #[.agg (cWr w s).toArray] W (BareP p W w):=by
 have HP:=aB hp;have HONE:=aB (show(cWr w s).all (·.oneCell')=true from hp.one);obtain⟨ra,rc,er,-⟩:=hp.ret.shape;obtain⟨ta,tc,et,-⟩:=hp.sets.shape;obtain⟨wa,wc,ew⟩:=hp.wher.shape;obtain⟨oa,oc,eo⟩:=hp.on.shape;obtain⟨na,nc,en,-⟩:=hp.whens.shape;clear hp;go_enter func56,ntmps56;go_wp2_with (refine wpList_boxO rfl 46 (.tmp 0) rfl (cWr w s) rfl ?_)
 intro w0 hb0 hX0;have hz0:=lt_of_heap hX0;have HB0:=aB hb0;have HX0:=aB hX0;have d0:=cell_of (i:=0) hX0 rfl;have d1:=cell_of (i:=1) hX0 rfl;have d2:=cell_of (i:=2) hX0 rfl;have d52:=cell_of (i:=52) hX0 rfl;rw[er] at d52;clear hb0 hX0;go_wp2_with (refine bA (g:=w0.heap.size+1) (i:=0) rfl rfl rfl rfl (cWr {zeroW with kind:=w.kind,into:=w.into,ret:=w.ret} {nilW with ret:= .slice ra w.ret.length rc}) (aV (w0.alloc (.cells (cWr zeroW nilW).toArray 46)) (.cells (cWr zeroW nilW).toArray 46) (k:=w0.heap.size+1) aa) rfl ab wrInfoZ rfl ?_)
 intro w1 hB1 hX1;have hb1:Bl w0 w1:=(((Bl.refl w0).alloc _).alloc _).but hB1 aE;have HXw1:=aB hX1;have HBw1:=aB (HB0.o.call hb1);have HQw1:=aB ((hb1.block _ (lt_of_heap HX0.o)).trans HX0.o);have HRw1:=aB ((hB1.same w0.heap.size aE).trans ((aW _ _ aa).trans (aN w0 (.cells (cWr zeroW nilW).toArray 46))));have d0:=cell_of (i:=0) HQw1.o rfl;clear hB1 hX1 hb1 HB0 HX0 d1 d2 d52;by_cases h1:w.kind=1
 ·have hbw:bareW w={w with using':=⟨[],[]⟩,on:=zeroE,whens:=[]}:=by unfold bareW;rw[if_pos h1]
  clear er et ew eo en;have HONE2:Hid ((cWr {w with using':=⟨[],[]⟩,on:=zeroE,whens:=[]} {s with on:=nilV,whens:=nilV}).all (·.oneCell')=true):=aB (PartsW.one (p:=p) (W:=W) (w:={w with using':=⟨[],[]⟩,on:=zeroE,whens:=[]}) (s:={s with on:=nilV,whens:=nilV}) ⟨HP.o.cols,HP.o.rows,HP.o.query,HP.o.conf,HP.o.sets,HP.o.wher,.nil _ _ _ _,.nil _ _ _ _,HP.o.ret⟩);rw[h1] at d0;clear h1;go_wp2_with (first |(refine wpList_load_midG cF 46 (.tmp 1) rfl W.heap.size 0 rfl (cWr w s) _ (range_of HQw1.o rfl) underlying46 rfl wrInfoZ ?_)|(refine bA (g:=w0.heap.size+1) (i:=0) rfl rfl rfl rfl (cWr w s) HXw1.o rfl ab wrInfoZ HONE.o ?_))
  intro w2 hB9 hX9;have HXw2:=aB hX9;have HBw2:=aB (HBw1.o.but hB9 aE);have HRw2:=aB ((hB9.same w0.heap.size aE).trans HRw1.o);have HQw2:=aB ((hB9.same W.heap.size aE).trans HQw1.o);clear hB9 hX9 HXw1 HBw1 HRw1 HQw1 d0;go_wp2_with (refine bA (g:=w0.heap.size+1) (i:=41) rfl rfl rfl rfl (cWr {w with using':=⟨[],[]⟩} s) HXw2.o rfl ab d7e rfl ?_)
  intro w3 hB9 hX9;have HXw3:=aB hX9;have HBw3:=aB (HBw2.o.but hB9 aE);have HRw3:=aB ((hB9.same w0.heap.size aE).trans HRw2.o);have HQw3:=aB ((hB9.same W.heap.size aE).trans HQw2.o);clear hB9 hX9 HXw2 HBw2 HRw2 HQw2;go_wp2_with (refine bA (g:=w0.heap.size+1) (i:=43) rfl rfl rfl rfl (cWr {w with using':=⟨[],[]⟩,on:=zeroE} {s with on:=nilV}) HXw3.o rfl ab d4b rfl ?_)
  intro w4 hB9 hX9;have HXw4:=aB hX9;have HBw4:=aB (HBw3.o.but hB9 aE);have HRw4:=aB ((hB9.same w0.heap.size aE).trans HRw3.o);have HQw4:=aB ((hB9.same W.heap.size aE).trans HQw3.o);clear hB9 hX9 HXw3 HBw3 HRw3 HQw3;go_wp2_with (refine bA (g:=w0.heap.size+1) (i:=51) rfl rfl rfl rfl (cWr {w with using':=⟨[],[]⟩,on:=zeroE,whens:=[]} {s with on:=nilV,whens:=nilV}) HXw4.o rfl ab slWnInfo rfl ?_)
  intro w5 hB9 hX9;have HXw5:=aB hX9;have HBw5:=aB (HBw4.o.but hB9 aE);have HRw5:=aB ((hB9.same w0.heap.size aE).trans HRw4.o);have HQw5:=aB ((hB9.same W.heap.size aE).trans HQw4.o);clear hB9 hX9 HXw4 HBw4 HRw4 HQw4;go_wp2_with (first |(refine wpList_load_midG cF 46 (.tmp 3) rfl (w0.heap.size+1) 0 rfl (cWr {w with using':=⟨[],[]⟩,on:=zeroE,whens:=[]} {s with on:=nilV,whens:=nilV}) _ (range_of HXw5.o rfl) underlying46 rfl wrInfoZ ?_)|(refine bA (g:=w0.heap.size) (i:=0) rfl rfl rfl rfl (cWr {w with using':=⟨[],[]⟩,on:=zeroE,whens:=[]} {s with on:=nilV,whens:=nilV}) HRw5.o rfl ab wrInfoZ dc ?_))
  intro wf hBf hXf;have HBF:=aB (HBw5.o.but hBf (Nat.le_of_lt hz0));go_wp2;refine bodyPost_ret (v:= .agg ((cWr {w with using':=⟨[],[]⟩,on:=zeroE,whens:=[]} {s with on:=nilV,whens:=nilV})).toArray) (results_cell_row (p:=2) (ty:=46) rfl _ _ w0.heap.size 46 _ (0,0) _ rfl hXf underlying46 rfl wrInfoZ) rfl ?_;have hp:=HP.o.bl HBF.o;exact⟨⟨_,by rw[hbw],by rw[hbw];exact⟨hp.cols,hp.rows,hp.query,hp.conf,hp.sets,hp.wher,.nil _ _ _ _,.nil _ _ _ _,hp.ret⟩⟩,HBF.o⟩
 by_cases h2:w.kind=2
 ·have hbw:bareW w={zeroW with kind:=w.kind,into:=w.into,ret:=w.ret,sets:=w.sets,wher:=w.wher}:=by unfold bareW;rw[if_neg h1,if_pos h2]
  rw[h2] at d0;clear h1 h2;go_wp2_with fail;refine wp_region_noPanic (bM (fun B=>B.heap[W.heap.size]?=some (.cells (cWr w s).toArray 46 (0,0))) ((.take 0 (.take 1 (.take 2 (.take 3 (.take 4 (.one 5 (.take 6 (.one 7 .done))))))))) af af af (fun _ _ _ _ _ h=>h) (((Bl.refl w1).drew.block _ (lt_of_heap HQw1.o)).trans HQw1.o) ?_);intro wd HWD hY;iterate 3 (refine aI rfl ab eJ ?_;(try simp only[aK,aA,aD,aF]))
  refine aI rfl ab (fun wS hSw=>run_load_midO rfl rfl (range_of (i:=33) (xs:=qD w.wher (.slice wa w.wher.args.length wc)) hSw (by rw[<-ew];rfl)) underlying38 rfl d4b) ?_;(try simp only[aK,aA,aD,aF])
  refine aI rfl ab eJ ?_;(try simp only[aK,aA,aD,aF])
  refine aL rfl (fun K hK=>?_);rw[if_pos ab];refine bC rfl rfl rfl ((cWr {zeroW with kind:=w.kind,into:=w.into,ret:=w.ret,sets:=w.sets} {nilW with ret:= .slice ra w.ret.length rc,sets:= .slice ta w.sets.length tc})) ((HWD.o.block _ (lt_of_heap HXw1.o)).trans HXw1.o) rfl rfl slStInfo rfl ?_;intro w3 hB3 hX3;refine hK.o _ _ (((hB3.same W.heap.size aE).trans hY)) ?_;clear hY hK K;intro hY;(try simp only[aK])
  refine aI rfl ab eJ ?_;(try simp only[aK,aA,aD,aF])
  refine aL rfl (fun K hK=>?_);rw[if_pos ab];refine bC rfl rfl rfl ((cWr {zeroW with kind:=w.kind,into:=w.into,ret:=w.ret,sets:=w.sets,wher:=w.wher} {nilW with ret:= .slice ra w.ret.length rc,sets:= .slice ta w.sets.length tc,wher:= .slice wa w.wher.args.length wc})) hX3 rfl rfl d4b rfl ?_;intro w4 hB4 hX4;refine hK.o _ _ (((hB4.same W.heap.size aE).trans hY)) ?_;clear hY hK K;intro hY;(try simp only[aK])
  refine fO (bF ?_);have HXw4:=aB hX4;have HBw4:=aB (((HBw1.o.call HWD.o).but hB3 aE).but hB4 aE);have HRw4:=aB ((hB4.same w0.heap.size aE).trans ((hB3.same w0.heap.size aE).trans ((HWD.o.block _ (lt_of_heap HRw1.o)).trans HRw1.o)));clear hY HWD hB3 hX3 hB4 hX4 HXw1 HBw1 HRw1 HQw1 d0;go_wp2_with (first |(refine wpList_load_midG cF 46 (.tmp 3) rfl (w0.heap.size+1) 0 rfl (cWr {zeroW with kind:=w.kind,into:=w.into,ret:=w.ret,sets:=w.sets,wher:=w.wher} {nilW with ret:= .slice ra w.ret.length rc,sets:= .slice ta w.sets.length tc,wher:= .slice wa w.wher.args.length wc}) _ (range_of HXw4.o rfl) underlying46 rfl wrInfoZ ?_)|(refine bA (g:=w0.heap.size) (i:=0) rfl rfl rfl rfl (cWr {zeroW with kind:=w.kind,into:=w.into,ret:=w.ret,sets:=w.sets,wher:=w.wher} {nilW with ret:= .slice ra w.ret.length rc,sets:= .slice ta w.sets.length tc,wher:= .slice wa w.wher.args.length wc}) HRw4.o rfl ab wrInfoZ dc ?_))
  intro wf hBf hXf;have HBF:=aB (HBw4.o.but hBf (Nat.le_of_lt hz0));go_wp2;refine bodyPost_ret (v:= .agg ((cWr {zeroW with kind:=w.kind,into:=w.into,ret:=w.ret,sets:=w.sets,wher:=w.wher} {nilW with ret:= .slice ra w.ret.length rc,sets:= .slice ta w.sets.length tc,wher:= .slice wa w.wher.args.length wc})).toArray) (results_cell_row (p:=2) (ty:=46) rfl _ _ w0.heap.size 46 _ (0,0) _ rfl hXf underlying46 rfl wrInfoZ) rfl ?_;have hp:=HP.o.bl HBF.o;exact⟨⟨_,by rw[hbw],by rw[hbw];exact⟨.nil _ _ _ _,.nil _ _ _ _,(parts_zeroW p wf).query,.nil _ _ _ _,by rw[<-et];exact hp.sets,by rw[<-ew];exact hp.wher,.nil _ _ _ _,.nil _ _ _ _,by rw[<-er];exact hp.ret⟩⟩,HBF.o⟩
 by_cases h3:w.kind=3
 ·have hbw:bareW w={zeroW with kind:=w.kind,into:=w.into,ret:=w.ret,wher:=w.wher}:=by unfold bareW;rw[if_neg h1,if_neg h2,if_pos h3]
  rw[h3] at d0;clear h1 h2 h3;go_wp2_with (first |(refine wpList_load_midG cF 38 (.tmp 31) rfl W.heap.size 33 rfl (qD w.wher (.slice wa w.wher.args.length wc)) _ (range_of HQw1.o (by rw[<-ew];rfl)) underlying38 rfl d4b ?_)|(refine bA (g:=w0.heap.size+1) (i:=33) rfl rfl rfl rfl (cWr {zeroW with kind:=w.kind,into:=w.into,ret:=w.ret,wher:=w.wher} {nilW with ret:= .slice ra w.ret.length rc,wher:= .slice wa w.wher.args.length wc}) HXw1.o rfl ab d4b rfl ?_))
  intro w2 hB9 hX9;have HXw2:=aB hX9;have HBw2:=aB (HBw1.o.but hB9 aE);have HRw2:=aB ((hB9.same w0.heap.size aE).trans HRw1.o);clear hB9 hX9 HXw1 HBw1 HRw1 HQw1 d0;go_wp2_with (first |(refine wpList_load_midG cF 46 (.tmp 3) rfl (w0.heap.size+1) 0 rfl (cWr {zeroW with kind:=w.kind,into:=w.into,ret:=w.ret,wher:=w.wher} {nilW with ret:= .slice ra w.ret.length rc,wher:= .slice wa w.wher.args.length wc}) _ (range_of HXw2.o rfl) underlying46 rfl wrInfoZ ?_)|(refine bA (g:=w0.heap.size) (i:=0) rfl rfl rfl rfl (cWr {zeroW with kind:=w.kind,into:=w.into,ret:=w.ret,wher:=w.wher} {nilW with ret:= .slice ra w.ret.length rc,wher:= .slice wa w.wher.args.length wc}) HRw2.o rfl ab wrInfoZ dc ?_))
  intro wf hBf hXf;have HBF:=aB (HBw2.o.but hBf (Nat.le_of_lt hz0));go_wp2;refine bodyPost_ret (v:= .agg ((cWr {zeroW with kind:=w.kind,into:=w.into,ret:=w.ret,wher:=w.wher} {nilW with ret:= .slice ra w.ret.length rc,wher:= .slice wa w.wher.args.length wc})).toArray) (results_cell_row (p:=2) (ty:=46) rfl _ _ w0.heap.size 46 _ (0,0) _ rfl hXf underlying46 rfl wrInfoZ) rfl ?_;have hp:=HP.o.bl HBF.o;exact⟨⟨_,by rw[hbw],by rw[hbw];exact⟨.nil _ _ _ _,.nil _ _ _ _,(parts_zeroW p wf).query,.nil _ _ _ _,.nil _ _ _ _,by rw[<-ew];exact hp.wher,.nil _ _ _ _,.nil _ _ _ _,by rw[<-er];exact hp.ret⟩⟩,HBF.o⟩
 by_cases h4:w.kind=4
 ·have hbw:bareW w={zeroW with kind:=w.kind,into:=w.into,ret:=w.ret,using':=w.using',on:=w.on,whens:=w.whens}:=by unfold bareW;rw[if_neg h1,if_neg h2,if_neg h3,if_pos h4]
  rw[h4] at d0;clear h1 h2 h3 h4;go_wp2_with fail;refine wp_region_noPanic (bM (fun B=>B.heap[W.heap.size]?=some (.cells (cWr w s).toArray 46 (0,0))) ((.take 0 (.take 1 (.take 2 (.take 3 (.take 4 (.take 5 (.take 6 (.one 7 (.take 8 (.one 9 (.take 10 (.one 11 .done))))))))))))) af af af (fun _ _ _ _ _ h=>h) (((Bl.refl w1).drew.block _ (lt_of_heap HQw1.o)).trans HQw1.o) ?_);intro wd HWD hY;refine aI rfl ab cv ?_;(try simp only[aK,aA,aD,aF])
  refine aI rfl ab (fun wS hSw=>run_load_midO rfl rfl (range_of (i:=41) (xs:=[S w.using'.t,S w.using'.al]) hSw rfl) underlying26 rfl d7e) ?_;(try simp only[aK,aA,aD,aF])
  refine aI rfl ab cv ?_;(try simp only[aK,aA,aD,aF])
  refine aI rfl ab (fun wS hSw=>run_load_midO rfl rfl (range_of (i:=43) (xs:=qD w.on (.slice oa w.on.args.length oc)) hSw (by rw[<-eo];rfl)) underlying38 rfl d4b) ?_;(try simp only[aK,aA,aD,aF])
  iterate 3 (refine aI rfl ab cv ?_;(try simp only[aK,aA,aD,aF]))
  refine aL rfl (fun K hK=>?_);rw[if_pos ab];refine bC rfl rfl rfl ((cWr {zeroW with kind:=w.kind,into:=w.into,ret:=w.ret,using':=w.using'} {nilW with ret:= .slice ra w.ret.length rc})) ((HWD.o.block _ (lt_of_heap HXw1.o)).trans HXw1.o) rfl rfl d7e rfl ?_;intro w3 hB3 hX3;refine hK.o _ _ (((hB3.same W.heap.size aE).trans hY)) ?_;clear hY hK K;intro hY;(try simp only[aK])
  refine aI rfl ab cv ?_;(try simp only[aK,aA,aD,aF])
  refine aL rfl (fun K hK=>?_);rw[if_pos ab];refine bC rfl rfl rfl ((cWr {zeroW with kind:=w.kind,into:=w.into,ret:=w.ret,using':=w.using',on:=w.on} {nilW with ret:= .slice ra w.ret.length rc,on:= .slice oa w.on.args.length oc})) hX3 rfl rfl d4b rfl ?_;intro w4 hB4 hX4;refine hK.o _ _ (((hB4.same W.heap.size aE).trans hY)) ?_;clear hY hK K;intro hY;(try simp only[aK])
  refine aI rfl ab cv ?_;(try simp only[aK,aA,aD,aF])
  refine aL rfl (fun K hK=>?_);rw[if_pos ab];refine bC rfl rfl rfl ((cWr {zeroW with kind:=w.kind,into:=w.into,ret:=w.ret,using':=w.using',on:=w.on,whens:=w.whens} {nilW with ret:= .slice ra w.ret.length rc,on:= .slice oa w.on.args.length oc,whens:= .slice na w.whens.length nc})) hX4 rfl rfl slWnInfo rfl ?_;intro w5 hB5 hX5;refine hK.o _ _ (((hB5.same W.heap.size aE).trans hY)) ?_;clear hY hK K;intro hY;(try simp only[aK])
  refine fO (bF ?_);have HXw5:=aB hX5;have HBw5:=aB ((((HBw1.o.call HWD.o).but hB3 aE).but hB4 aE).but hB5 aE);have HRw5:=aB ((hB5.same w0.heap.size aE).trans ((hB4.same w0.heap.size aE).trans ((hB3.same w0.heap.size aE).trans ((HWD.o.block _ (lt_of_heap HRw1.o)).trans HRw1.o))));clear hY HWD hB3 hX3 hB4 hX4 hB5 hX5 HXw1 HBw1 HRw1 HQw1 d0;go_wp2_with (first |(refine wpList_load_midG cF 46 (.tmp 3) rfl (w0.heap.size+1) 0 rfl (cWr {zeroW with kind:=w.kind,into:=w.into,ret:=w.ret,using':=w.using',on:=w.on,whens:=w.whens} {nilW with ret:= .slice ra w.ret.length rc,on:= .slice oa w.on.args.length oc,whens:= .slice na w.whens.length nc}) _ (range_of HXw5.o rfl) underlying46 rfl wrInfoZ ?_)|(refine bA (g:=w0.heap.size) (i:=0) rfl rfl rfl rfl (cWr {zeroW with kind:=w.kind,into:=w.into,ret:=w.ret,using':=w.using',on:=w.on,whens:=w.whens} {nilW with ret:= .slice ra w.ret.length rc,on:= .slice oa w.on.args.length oc,whens:= .slice na w.whens.length nc}) HRw5.o rfl ab wrInfoZ dc ?_))
  intro wf hBf hXf;have HBF:=aB (HBw5.o.but hBf (Nat.le_of_lt hz0));go_wp2;refine bodyPost_ret (v:= .agg ((cWr {zeroW with kind:=w.kind,into:=w.into,ret:=w.ret,using':=w.using',on:=w.on,whens:=w.whens} {nilW with ret:= .slice ra w.ret.length rc,on:= .slice oa w.on.args.length oc,whens:= .slice na w.whens.length nc})).toArray) (results_cell_row (p:=2) (ty:=46) rfl _ _ w0.heap.size 46 _ (0,0) _ rfl hXf underlying46 rfl wrInfoZ) rfl ?_;have hp:=HP.o.bl HBF.o;exact⟨⟨_,by rw[hbw],by rw[hbw];exact⟨.nil _ _ _ _,.nil _ _ _ _,(parts_zeroW p wf).query,.nil _ _ _ _,.nil _ _ _ _,.nil _ _ _ _,by rw[<-eo];exact hp.on,by rw[<-en];exact hp.whens,by rw[<-er];exact hp.ret⟩⟩,HBF.o⟩
 ·have hbw:bareW w={zeroW with kind:=w.kind,into:=w.into,ret:=w.ret}:=by unfold bareW;rw[if_neg h1,if_neg h2,if_neg h3,if_neg h4]
  have b1:(w.kind==1)=false:=cC;have b2:(w.kind==2)=false:=cH;have b3:(w.kind==3)=false:=ck;have b4:(w.kind==4)=false:=cm;go_wp2_with (first |(refine wpList_load_midG cF 46 (.tmp 3) rfl (w0.heap.size+1) 0 rfl (cWr {zeroW with kind:=w.kind,into:=w.into,ret:=w.ret} {nilW with ret:= .slice ra w.ret.length rc}) _ (range_of HXw1.o rfl) underlying46 rfl wrInfoZ ?_)|(refine bA (g:=w0.heap.size) (i:=0) rfl rfl rfl rfl (cWr {zeroW with kind:=w.kind,into:=w.into,ret:=w.ret} {nilW with ret:= .slice ra w.ret.length rc}) HRw1.o rfl ab wrInfoZ dc ?_))
  intro wf hBf hXf;have HBF:=aB (HBw1.o.but hBf (Nat.le_of_lt hz0));go_wp2;refine bodyPost_ret (v:= .agg ((cWr {zeroW with kind:=w.kind,into:=w.into,ret:=w.ret} {nilW with ret:= .slice ra w.ret.length rc})).toArray) (results_cell_row (p:=2) (ty:=46) rfl _ _ w0.heap.size 46 _ (0,0) _ rfl hXf underlying46 rfl wrInfoZ) rfl ?_;exact⟨⟨_,by rw[hbw],by rw[hbw];exact parts_bare0 (by rw[<-er];exact(HP.o.bl HBF.o).ret)⟩,HBF.o⟩
end
end
end Go.Proofs.YtohlomdapelgeaaGreatDoor
