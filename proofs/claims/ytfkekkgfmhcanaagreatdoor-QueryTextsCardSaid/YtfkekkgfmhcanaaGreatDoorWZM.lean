/- Texts beside the shared ones. -/
import Derived.Test.YtfkekkgfmhcanaaGreatDoorTS
import Derived.Test.YtfkekkgfmhcanaaGreatDoorTA
import Derived.Test.YtfkekkgfmhcanaaGreatDoorTB
import Derived.Test.YtfkekkgfmhcanaaGreatDoorTC
import Derived.Test.YtfkekkgfmhcanaaGreatDoorTD
import Derived.Test.YtfkekkgfmhcanaaGreatDoorTE
import Derived.Test.YtfkekkgfmhcanaaGreatDoorTF
import Derived.Test.YtfkekkgfmhcanaaGreatDoorTG
import Derived.Test.YtfkekkgfmhcanaaGreatDoorTH
import Derived.Test.YtfkekkgfmhcanaaGreatDoorTI
import Derived.Test.YtfkekkgfmhcanaaGreatDoorTJ
import Derived.Test.YtfkekkgfmhcanaaGreatDoorWZK
namespace Go.Proofs.YtfkekkgfmhcanaaGreatDoor
open Go.RowKit
open _root_.And renaming intro->bT
open _root_.Go.Lib renaming hid->aB
open _root_.Nat renaming le_refl->aH
set_option maxRecDepth 100000
set_option maxHeartbeats 16000000
section
theorem qSame_any{p q:Qu}(hp0:d9u 1000000 p){W:World}{v u:Value}(hv:d5o W p v)(hu:d5o W q u):Calls Tryz.prog 12 #[v,u] W fun e w'=>e= .returned (.bool (sameQ p q))/\Bl W w':=by
 obtain⟨si,sj,sw,sg,sh,so,rfl,hp⟩:=hv;obtain⟨ui,uj,uw,ug,uh,uo,rfl,hp2⟩:=hu;obtain⟨ai,ci,aj,cj,aw,cw,ag,cg,ah,ch,ao,co,rfl,rfl,rfl,rfl,rfl,rfl⟩:=hp.slices;obtain⟨bi,di,bj,dj,bw,dw,bg,dg,bh,dh,bo,do',rfl,rfl,rfl,rfl,rfl,rfl⟩:=hp2.slices;have hi0:∀(args:Array Value) (w:World),(callFunc 41 args).run Tryz.prog w= .ok (.enter 41 args) w:=fun args w=>(by simp[go_sem]);have hj0:∀(args:Array Value) (w:World),(callFunc 45 args).run Tryz.prog w= .ok (.enter 45 args) w:=fun args w=>(by simp[go_sem]);have ho0:∀(args:Array Value) (w:World),(callFunc 47 args).run Tryz.prog w= .ok (.enter 47 args) w:=fun args w=>(by simp[go_sem]);have HSI:Hid (∀w,Bl W w->Calls Tryz.prog 40 #[.slice ai p.items.length ci,.slice bi q.items.length di,.func (.func 41) #[] #[]] w fun e w'=>e= .returned (.bool (samesBy sameIt p.items q.items))/\Bl w w'):=fun w hb=>equalI_any hi0 hp0.li (hp.items.bl hb) (hp2.items.bl hb) fun y hy z W' s s2 _ r1 r2=>qsameItem_any (hp0.items y hy) W' s s2 r1.reads r2.reads;have HSJ:Hid (∀w,Bl W w->Calls Tryz.prog 44 #[.slice aj p.joins.length cj,.slice bj q.joins.length dj,.func (.func 45) #[] #[]] w fun e w'=>e= .returned (.bool (samesBy sameJo p.joins q.joins))/\Bl w w'):=fun w hb=>equalJ_any hj0 hp0.lj (hp.joins.bl hb) (hp2.joins.bl hb) fun y hy z W' s s2 _ r1 r2=>qSame1_any (hp0.joins y hy) W' s s2 r1.reads r2.reads;have HSO:Hid (∀w,Bl W w->Calls Tryz.prog 46 #[.slice ao p.orders.length co,.slice bo q.orders.length do',.func (.func 47) #[] #[]] w fun e w'=>e= .returned (.bool (samesBy sameOd p.orders q.orders))/\Bl w w'):=fun w hb=>equalO_any ho0 hp0.lo (hp.orders.bl hb) (hp2.orders.bl hb) fun y hy z W' s s2 _ r1 r2=>qSame2_any (hp0.orders y hy) W' s s2 r1.reads r2.reads;have HSG:Hid (∀w,Bl W w->Calls Tryz.prog 43 #[.slice ag p.group.length cg,.slice bg q.group.length dg,.func (.func 42) #[] #[]] w fun e w'=>e= .returned (.bool (lQ p.group q.group))/\Bl w w'):=fun w hb=>c3u hp0.lg (hp.group.reads.bl hb) (hp2.group.reads.bl hb) fun y hy z W' v u _ h1 h2=>b7d _ y z (aH _) (hp0.group y hy) W' v u h1 h2;have HSW:Hid (∀w,Bl W w->Calls Tryz.prog 42 #[EV p.wher.k p.wher.v p.wher.t p.wher.n p.wher.o (.slice aw p.wher.args.length cw),EV q.wher.k q.wher.v q.wher.t q.wher.n q.wher.o (.slice bw q.wher.args.length dw)] w fun e w'=>e= .returned (.bool (kR p.wher q.wher))/\Bl w w'):=fun w hb=>b7d _ _ _ (aH _) hp0.wher w _ _ ⟨_,rfl,hp.wher.reads.bl hb⟩ ⟨_,rfl,hp2.wher.reads.bl hb⟩;have HSH:Hid (∀w,Bl W w->Calls Tryz.prog 42 #[EV p.having.k p.having.v p.having.t p.having.n p.having.o (.slice ah p.having.args.length ch),EV q.having.k q.having.v q.having.t q.having.n q.having.o (.slice bh q.having.args.length dh)] w fun e w'=>e= .returned (.bool (kR p.having q.having))/\Bl w w'):=fun w hb=>b7d _ _ _ (aH _) hp0.having w _ _ ⟨_,rfl,hp.having.reads.bl hb⟩ ⟨_,rfl,hp2.having.reads.bl hb⟩;have HX:=aB (bT ((aW (W.alloc (.cells (quC p (.slice ai p.items.length ci) (.slice aj p.joins.length cj) (.slice aw p.wher.args.length cw) (.slice ag p.group.length cg) (.slice ah p.having.args.length ch) (.slice ao p.orders.length co)).toArray 36)) (.cells (quC q (.slice bi q.items.length di) (.slice bj q.joins.length dj) (.slice bw q.wher.args.length dw) (.slice bg q.group.length dg) (.slice bh q.having.args.length dh) (.slice bo q.orders.length do')).toArray 36) (by simp)).trans (aN W _)) (aV (W.alloc (.cells (quC p (.slice ai p.items.length ci) (.slice aj p.joins.length cj) (.slice aw p.wher.args.length cw) (.slice ag p.group.length cg) (.slice ah p.having.args.length ch) (.slice ao p.orders.length co)).toArray 36)) (.cells (quC q (.slice bi q.items.length di) (.slice bj q.joins.length dj) (.slice bw q.wher.args.length dw) (.slice bg q.group.length dg) (.slice bh q.having.args.length dh) (.slice bo q.orders.length do')).toArray 36) (k:=W.heap.size+1) (by simp)))
 have HB:=aB (((Bl.refl W).alloc (.cells (quC p (.slice ai p.items.length ci) (.slice aj p.joins.length cj) (.slice aw p.wher.args.length cw) (.slice ag p.group.length cg) (.slice ah p.having.args.length ch) (.slice ao p.orders.length co)).toArray 36)).alloc (.cells (quC q (.slice bi q.items.length di) (.slice bj q.joins.length dj) (.slice bw q.wher.args.length dw) (.slice bg q.group.length dg) (.slice bh q.having.args.length dh) (.slice bo q.orders.length do')).toArray 36));obtain⟨R,HR⟩:∃R,Hid (R=sameQ p q):=⟨_,rfl⟩
 rw[<-HR.o];have HE:Hid (R=_):=HR.o.trans (by unfold sameQ;rfl);obtain⟨c0,c1,c2,c3,c4,c5,c6,c7,c8,c9,c10,c11,c12,c13,c14,c15,c16,c17,c18,c19,c20,c21,c22,c23⟩:=d6s HX.o.1;obtain⟨d0,d1,d2,d3,d4,d5,d6,d7,d8,d9,d10,d11,d12,d13,d14,d15,d16,d17,d18,d19,d20,d21,d22,d23⟩:=d6s HX.o.2;clear hp hp2 HR hp0 hi0 hj0 ho0;by_cases e1:p.distinct=q.distinct
 case neg=>
  have HF:=aB (show R=false from by rw[HE.o];simp[e1]);have hb1:(p.distinct==q.distinct)=false:=(by simpa using e1);clear e1 HE HSI HSJ HSO HSG HSW HSH;go_enter Tryz.func12,Tryz.ntmps12;go_wp2;go_ret;exact⟨by rw[HF.o];first |rfl|simp,HB.o⟩
 have hb1:(p.distinct==q.distinct)=true:=by simpa using e1
 replace HE:=aB (HE.o.trans (by rw[hb1]))
 clear e1;go_enter Tryz.func12,Tryz.ntmps12;go_wp2_with fail;refine(HSI.o _ HB.o).mono ?_;rintro e w9 ⟨rfl,hb⟩
 replace HB:=aB (HB.o.call hb)
 replace HX:=aB (bT (keep1 HX.o.1 hb) (keep1 HX.o.2 hb))
 clear hb c0 c1 c2 c3 c4 c5 c6 c7 c8 c9 c10 c11 c12 c13 c14 c15 c16 c17 c18 c19 c20 c21 c22 c23 d0 d1 d2 d3 d4 d5 d6 d7 d8 d9 d10 d11 d12 d13 d14 d15 d16 d17 d18 d19 d20 d21 d22 d23;obtain⟨c0,c1,c2,c3,c4,c5,c6,c7,c8,c9,c10,c11,c12,c13,c14,c15,c16,c17,c18,c19,c20,c21,c22,c23⟩:=d6s HX.o.1;obtain⟨d0,d1,d2,d3,d4,d5,d6,d7,d8,d9,d10,d11,d12,d13,d14,d15,d16,d17,d18,d19,d20,d21,d22,d23⟩:=d6s HX.o.2;cases hs2:(samesBy sameIt p.items q.items)
 ·have HF:=aB (show R=false from by rw[HE.o];simp[hs2]);clear hs2 HE;go_wp2;go_ret;exact⟨by rw[HF.o];first |rfl|simp,HB.o⟩
 replace HE:=aB (HE.o.trans (by rw[hs2]))
 clear hs2;by_cases f1:p.frm.t=q.frm.t
 case neg=>
  have HF:=aB (show R=false from by rw[HE.o];simp[sameSo,f1]);have hb2:(p.frm.t==q.frm.t)=false:=(by simpa using f1);clear f1 HE HSI HSJ HSO HSG HSW HSH;go_wp2;go_ret;exact⟨by rw[HF.o];first |rfl|simp,HB.o⟩
 have hb2:(p.frm.t==q.frm.t)=true:=(by simpa using f1);by_cases f2:p.frm.al=q.frm.al
 case neg=>
  have HF:=aB (show R=false from by rw[HE.o];simp[sameSo,f2]);have hb3:(p.frm.al==q.frm.al)=false:=(by simpa using f2);clear f1 f2 HE HSI HSJ HSO HSG HSW HSH;go_wp2;go_ret;exact⟨by rw[HF.o];first |rfl|simp,HB.o⟩
 have hb3:(p.frm.al==q.frm.al)=true:=by simpa using f2
 replace HE:=aB (HE.o.trans (by rw[show sameSo p.frm q.frm=true from by simp[sameSo,f1,f2]]))
 clear f1 f2;go_wp2_with fail;refine(HSW.o _ HB.o).mono ?_;rintro e w9 ⟨rfl,hb⟩
 replace HB:=aB (HB.o.call hb)
 replace HX:=aB (bT (keep1 HX.o.1 hb) (keep1 HX.o.2 hb))
 clear hb c0 c1 c2 c3 c4 c5 c6 c7 c8 c9 c10 c11 c12 c13 c14 c15 c16 c17 c18 c19 c20 c21 c22 c23 d0 d1 d2 d3 d4 d5 d6 d7 d8 d9 d10 d11 d12 d13 d14 d15 d16 d17 d18 d19 d20 d21 d22 d23;obtain⟨c0,c1,c2,c3,c4,c5,c6,c7,c8,c9,c10,c11,c12,c13,c14,c15,c16,c17,c18,c19,c20,c21,c22,c23⟩:=d6s HX.o.1;obtain⟨d0,d1,d2,d3,d4,d5,d6,d7,d8,d9,d10,d11,d12,d13,d14,d15,d16,d17,d18,d19,d20,d21,d22,d23⟩:=d6s HX.o.2;cases hs3:(kR p.wher q.wher)
 ·have HF:=aB (show R=false from by rw[HE.o];simp[hs3]);clear hs3 HE;go_wp2;go_ret;exact⟨by rw[HF.o];first |rfl|simp,HB.o⟩
 replace HE:=aB (HE.o.trans (by rw[hs3]))
 clear hs3;go_wp2_with fail;refine(HSH.o _ HB.o).mono ?_;rintro e w9 ⟨rfl,hb⟩
 replace HB:=aB (HB.o.call hb)
 replace HX:=aB (bT (keep1 HX.o.1 hb) (keep1 HX.o.2 hb))
 clear hb c0 c1 c2 c3 c4 c5 c6 c7 c8 c9 c10 c11 c12 c13 c14 c15 c16 c17 c18 c19 c20 c21 c22 c23 d0 d1 d2 d3 d4 d5 d6 d7 d8 d9 d10 d11 d12 d13 d14 d15 d16 d17 d18 d19 d20 d21 d22 d23;obtain⟨c0,c1,c2,c3,c4,c5,c6,c7,c8,c9,c10,c11,c12,c13,c14,c15,c16,c17,c18,c19,c20,c21,c22,c23⟩:=d6s HX.o.1;obtain⟨d0,d1,d2,d3,d4,d5,d6,d7,d8,d9,d10,d11,d12,d13,d14,d15,d16,d17,d18,d19,d20,d21,d22,d23⟩:=d6s HX.o.2;cases hs4:(kR p.having q.having)
 ·have HF:=aB (show R=false from by rw[HE.o];simp[hs4]);clear hs4 HE;go_wp2;go_ret;exact⟨by rw[HF.o];first |rfl|simp,HB.o⟩
 replace HE:=aB (HE.o.trans (by rw[hs4]))
 clear hs4;by_cases f3:p.limit=q.limit
 case neg=>
  have HF:=aB (show R=false from by rw[HE.o];simp[f3]);have hb4:(p.limit==q.limit)=false:=(by simpa using f3);clear f3 HE HSI HSJ HSO HSG HSW HSH;go_wp2;go_ret;exact⟨by rw[HF.o];first |rfl|simp,HB.o⟩
 have hb4:(p.limit==q.limit)=true:=by simpa using f3
 replace HE:=aB (HE.o.trans (by rw[hb4]))
 clear f3;go_wp2_with fail;refine(HSG.o _ HB.o).mono ?_;rintro e w9 ⟨rfl,hb⟩
 replace HB:=aB (HB.o.call hb)
 replace HX:=aB (bT (keep1 HX.o.1 hb) (keep1 HX.o.2 hb))
 clear hb c0 c1 c2 c3 c4 c5 c6 c7 c8 c9 c10 c11 c12 c13 c14 c15 c16 c17 c18 c19 c20 c21 c22 c23 d0 d1 d2 d3 d4 d5 d6 d7 d8 d9 d10 d11 d12 d13 d14 d15 d16 d17 d18 d19 d20 d21 d22 d23;obtain⟨c0,c1,c2,c3,c4,c5,c6,c7,c8,c9,c10,c11,c12,c13,c14,c15,c16,c17,c18,c19,c20,c21,c22,c23⟩:=d6s HX.o.1;obtain⟨d0,d1,d2,d3,d4,d5,d6,d7,d8,d9,d10,d11,d12,d13,d14,d15,d16,d17,d18,d19,d20,d21,d22,d23⟩:=d6s HX.o.2;cases hs5:(lQ p.group q.group)
 ·have HF:=aB (show R=false from by rw[HE.o];simp[hs5]);clear hs5 HE;go_wp2;go_ret;exact⟨by rw[HF.o];first |rfl|simp,HB.o⟩
 replace HE:=aB (HE.o.trans (by rw[hs5]))
 clear hs5;go_wp2_with fail;refine(HSJ.o _ HB.o).mono ?_;rintro e w9 ⟨rfl,hb⟩
 replace HB:=aB (HB.o.call hb)
 replace HX:=aB (bT (keep1 HX.o.1 hb) (keep1 HX.o.2 hb))
 clear hb c0 c1 c2 c3 c4 c5 c6 c7 c8 c9 c10 c11 c12 c13 c14 c15 c16 c17 c18 c19 c20 c21 c22 c23 d0 d1 d2 d3 d4 d5 d6 d7 d8 d9 d10 d11 d12 d13 d14 d15 d16 d17 d18 d19 d20 d21 d22 d23;obtain⟨c0,c1,c2,c3,c4,c5,c6,c7,c8,c9,c10,c11,c12,c13,c14,c15,c16,c17,c18,c19,c20,c21,c22,c23⟩:=d6s HX.o.1;obtain⟨d0,d1,d2,d3,d4,d5,d6,d7,d8,d9,d10,d11,d12,d13,d14,d15,d16,d17,d18,d19,d20,d21,d22,d23⟩:=d6s HX.o.2;cases hs6:(samesBy sameJo p.joins q.joins)
 ·have HF:=aB (show R=false from by rw[HE.o];simp[hs6]);clear hs6 HE;go_wp2;go_ret;exact⟨by rw[HF.o];first |rfl|simp,HB.o⟩
 replace HE:=aB (HE.o.trans (by rw[hs6]))
 clear hs6;go_wp2_with fail;refine(HSO.o _ HB.o).mono ?_;rintro e w8 ⟨rfl,hb⟩;go_wp2;go_ret;exact⟨by rw[HE.o];simp,HB.o.call hb⟩
end
end Go.Proofs.YtfkekkgfmhcanaaGreatDoor
