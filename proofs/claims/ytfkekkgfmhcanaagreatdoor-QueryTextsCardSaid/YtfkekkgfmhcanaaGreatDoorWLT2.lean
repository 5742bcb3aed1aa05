/- Texts beside the shared ones. -/
import Derived.Test.YtfkekkgfmhcanaaGreatDoorTS
import Derived.Test.YtfkekkgfmhcanaaGreatDoorTA
import Derived.Test.YtfkekkgfmhcanaaGreatDoorTB
import Derived.Test.YtfkekkgfmhcanaaGreatDoorTC
import Derived.Test.YtfkekkgfmhcanaaGreatDoorTD
import Derived.Test.YtfkekkgfmhcanaaGreatDoorTE
import Derived.Test.YtfkekkgfmhcanaaGreatDoorTF
import Derived.Test.YtfkekkgfmhcanaaGreatDoorTG
import Derived.Test.YtfkekkgfmhcanaaGreatDoorTH
import Derived.Test.YtfkekkgfmhcanaaGreatDoorTI
import Derived.Test.YtfkekkgfmhcanaaGreatDoorTJ
import Derived.Test.YtfkekkgfmhcanaaGreatDoorWZN
import Derived.Test.YtfkekkgfmhcanaaGreatDoorWZS
import Derived.Test.YtfkekkgfmhcanaaGreatDoorWZM
import Derived.Test.YtfkekkgfmhcanaaGreatDoorWRS
import Derived.Test.YtfkekkgfmhcanaaGreatDoorWRTA
import Derived.Test.YtfkekkgfmhcanaaGreatDoorWRT
import Derived.Test.YtfkekkgfmhcanaaGreatDoorWRU
import Derived.Test.YtfkekkgfmhcanaaGreatDoorWQ9
namespace Go.Proofs.YtfkekkgfmhcanaaGreatDoor
open Go.RowKit
open _root_.Go.Act renaming put->aK
open _root_.And renaming intro->bT
open _root_.Bool renaming and_eq_true->aQ,not_eq_true'->nT
open _root_.Go.Lib renaming cell_of_heap->aG,hid->aB
open _root_.List renaming all_eq_true->jA,setIfInBounds_toArray->aA,set_cons_succ->aF,set_cons_zero->aD
open _root_.Nat renaming le_trans->jH
open NoPanic renaming normal->bF
open _root_.Go.Region renaming wanted->jG
set_option maxRecDepth 100000
set_option maxHeartbeats 16000000
section
theorem load_rowG{P:Program}{ops:Array Oper}{rest:List Oper}{o:Oper}{a:Act}{w:World}{Q:Exit->Act->World->Prop}(hw:jG o (yielded ops a.tmps)=true)(ty:TypeId)(x:Operand)(ho:o.op= .load ty x)
  (g:Nat) (hx:a.eval x= .pointer (some ⟨g,0,none⟩)) (t:TypeId) (cs:Array Value) (fr:Nat×Nat) (d:TypeDesc) (hg:w.heap[g]?=some (.cells cs t fr))
  (hu:P.underlying ty=some d) (hd:(match d with | .struct _| .array _ _=>true|_=>false)=true) (hi:(P.info? ty).map (·.size)=some cs.size)
  (h:wpList P ops Q rest (a.put o.dst (.agg cs)) w):wpList P ops Q (o::rest) a w:=
 wpList_step fun _ hK=>by rw[if_pos hw];exact wp_load_row ty x ho g hx t cs fr d hg hu hd hi (hK _ _ h)
structure Tells(q:Qu)(s t:List UInt8)(c d:Int):Prop where
 yes:d3e q=true->s=d8n q/\c=0
 no:d3e q=false->s=[]/\c=2
 its:d4l q.items=true->t=d5q q.items/\d=0
 nit:d4l q.items=false->t=[]/\d=2
theorem tells(q:Qu):Tells q (if d3e q=true then d8n q else[]) (if d4l q.items=true then d5q q.items else[]) (if d3e q=true then 0 else 2) (if d4l q.items=true then 0 else 2):=
 ⟨fun h=>by rw[if_pos h,if_pos h];exact⟨rfl,rfl⟩,fun h=>by rw[h];exact⟨rfl,rfl⟩,fun h=>by rw[if_pos h,if_pos h];exact⟨rfl,rfl⟩,fun h=>by rw[h];exact⟨rfl,rfl⟩⟩
theorem its_right{l:List It}(h:d4l l=true):∀i∈l,d3r i=true:=by
 unfold d4l at h;simp only[aQ] at h;exact jA.1 h.2
theorem its_few{q:Qu}(hg:GoodQ q)(h:fewB q=true)(hr:d4l q.items=true):(d5q q.items).length<=100000000:=by
 simp only[fewB,fitsB17,aQ,nT,decide_eq_false_iff_not] at h;obtain⟨⟨⟨⟨⟨⟨⟨⟨⟨⟨n1,n2⟩,n3⟩,n4⟩,hw⟩,hh⟩,hs⟩,hj⟩,hgr⟩,ho⟩,hi,n5⟩:=h;exact jH (its_le n1 hi (fun i m=>hg.items i m) (its_right hr)) (by decide)
theorem qtexts_off(q p:Qu)(W:World)(v u:Value)(hv:d5o W q v)(hu:d5o W p u)(hG:nD W)(f1 f2:Bool)(hoff:(f1&&f2)=false)
  (hf1:∀w,Bl W w->Calls Tryz.prog 6 #[v] w fun e w'=>e= .returned (.bool f1)/\Bl w w') (hf2:∀w,Bl W w->Calls Tryz.prog 6 #[u] w fun e w'=>e= .returned (.bool f2)/\Bl w w'):Calls Tryz.prog 5 #[v,u] W (Yes W):=by
 have HG:=aB hG;have HF1:=aB hf1;have HF2:=aB hf2;obtain⟨si,sj,sw,sg,sh,so,rfl,hp⟩:=hv;obtain⟨ui,uj,uw,ug,uh,uo,rfl,hp2⟩:=hu;obtain⟨ai,ci,aj,cj,aw,cw,ag,cg,ah,ch,ao,co,rfl,rfl,rfl,rfl,rfl,rfl⟩:=hp.slices;obtain⟨bi,di,bj,dj,bw,dw,bg,dg,bh,dh,bo,do',rfl,rfl,rfl,rfl,rfl,rfl⟩:=hp2.slices;have HX:=aB (bT ((aW (W.alloc (.cells (quC q (.slice ai q.items.length ci) (.slice aj q.joins.length cj) (.slice aw q.wher.args.length cw) (.slice ag q.group.length cg) (.slice ah q.having.args.length ch) (.slice ao q.orders.length co)).toArray 36)) (.cells (quC p (.slice bi p.items.length di) (.slice bj p.joins.length dj) (.slice bw p.wher.args.length dw) (.slice bg p.group.length dg) (.slice bh p.having.args.length dh) (.slice bo p.orders.length do')).toArray 36) (by simp)).trans (aN W (.cells (quC q (.slice ai q.items.length ci) (.slice aj q.joins.length cj) (.slice aw q.wher.args.length cw) (.slice ag q.group.length cg) (.slice ah q.having.args.length ch) (.slice ao q.orders.length co)).toArray 36))) (aV (k:=W.heap.size+1) (W.alloc (.cells (quC q (.slice ai q.items.length ci) (.slice aj q.joins.length cj) (.slice aw q.wher.args.length cw) (.slice ag q.group.length cg) (.slice ah q.having.args.length ch) (.slice ao q.orders.length co)).toArray 36)) (.cells (quC p (.slice bi p.items.length di) (.slice bj p.joins.length dj) (.slice bw p.wher.args.length dw) (.slice bg p.group.length dg) (.slice bh p.having.args.length dh) (.slice bo p.orders.length do')).toArray 36) (by simp)));have HB:=aB (((Bl.refl W).alloc (.cells (quC q (.slice ai q.items.length ci) (.slice aj q.joins.length cj) (.slice aw q.wher.args.length cw) (.slice ag q.group.length cg) (.slice ah q.having.args.length ch) (.slice ao q.orders.length co)).toArray 36)).alloc (.cells (quC p (.slice bi p.items.length di) (.slice bj p.joins.length dj) (.slice bw p.wher.args.length dw) (.slice bg p.group.length dg) (.slice bh p.having.args.length dh) (.slice bo p.orders.length do')).toArray 36));clear hp hp2 hG hf1 hf2;cases f1
 ·clear hoff HF2;go_enter Tryz.func5,Tryz.ntmps5;go_wp2_with (refine wpList_load_row rfl 36 (.tmp 2) rfl W.heap.size rfl 36 _ (0,0) _ HX.o.1 Tryz.underlying36 rfl tC ?_)
  go_wp2_with fail;refine(HF1.o _ HB.o).mono ?_;rintro e w1 ⟨rfl,hb1⟩;go_wp2_with fail
  (with_reducible refine(d7c _ (HG.o.bl (HB.o.call hb1))).mono ?_)
  rintro e w9 ⟨rfl,hb9⟩;go_wp2;go_ret;exact⟨rfl,(HB.o.call hb1).call hb9⟩
 ·have h2:f2=false:=by simpa using hoff
  subst h2;clear hoff;go_enter Tryz.func5,Tryz.ntmps5;go_wp2_with (refine wpList_load_row rfl 36 (.tmp 2) rfl W.heap.size rfl 36 _ (0,0) _ HX.o.1 Tryz.underlying36 rfl tC ?_)
  go_wp2_with fail;refine(HF1.o _ HB.o).mono ?_;rintro e w1 ⟨rfl,hb1⟩;have HX1:=aB (eB HX.o hb1);go_wp2_with (refine load_rowG (by first |rfl|(simp[jG,yielded];done)|(simp[jG,yielded];omega)) 36 (.tmp 3) rfl (W.heap.size+1) rfl 36 _ (0,0) _ HX1.o.2 Tryz.underlying36 rfl tC ?_)
  go_wp2_with fail;refine(HF2.o _ (HB.o.call hb1)).mono ?_;rintro e w2 ⟨rfl,hb2⟩;have HB2:=aB ((HB.o.call hb1).call hb2);clear hb1 hb2;go_wp2_with fail
  (with_reducible refine(d7c _ (HG.o.bl (HB2.o))).mono ?_)
  rintro e w9 ⟨rfl,hb9⟩;go_wp2;go_ret;exact⟨rfl,(HB2.o).call hb9⟩
theorem qtexts_on(q p:Qu)(W:World)(v u:Value)(hv:d5o W q v)(hu:d5o W p u)(hg:GoodQ q)(hg2:GoodQ p)(hG:nD W)(hfq:fewB q=true)(hfp:fewB p=true)
  (hf1:∀w,Bl W w->Calls Tryz.prog 6 #[v] w fun e w'=>e= .returned (.bool true)/\Bl w w') (hf2:∀w,Bl W w->Calls Tryz.prog 6 #[u] w fun e w'=>e= .returned (.bool true)/\Bl w w'):Calls Tryz.prog 5 #[v,u] W (Yes W):=by
 obtain⟨hok,-,hsm⟩:=few_ok hg hfq;obtain⟨-,-,hsm2⟩:=few_ok hg2 hfp;have hk:=hg.kinds;have HG:=aB hG;have HF1:=aB hf1;have HF2:=aB hf2;have HV:=aB hv;have HU:=aB hu;obtain⟨s,t,c,d,hT⟩:∃s t c d,Tells q s t c d:=⟨_,_,_,_,tells q⟩
 have HTX:Hid (∀w,Bl W w->Calls Tryz.prog 8 #[v] w fun e w'=>e= .returned (.tuple #[S s,.int .i64 c])/\Bl w w'):=fun w hb=>by
  cases h:d3e q
  ·obtain⟨rfl,rfl⟩:=hT.no h;exact qText_no hok h w v (hv.bl hb) (hG.bl hb)
  ·obtain⟨rfl,rfl⟩:=hT.yes h;exact e3l hok h w v (hv.bl hb) (hG.bl hb)
 have HCK:Hid (∀w,Bl W w->Calls Tryz.prog 30 #[v] w fun e w'=>e= .returned (.int .i64 c)/\Bl w w'):=fun w hb=>by
  cases h:d3e q
  ·obtain⟨rfl,rfl⟩:=hT.no h;exact qCheck_no hok h w v (hv.bl hb) (hG.bl hb)
  ·obtain⟨rfl,rfl⟩:=hT.yes h;exact e2g hok h w v (hv.bl hb) (hG.bl hb)
 have HSM:Hid (∀w,Bl W w->Calls Tryz.prog 12 #[v,u] w fun e w'=>e= .returned (.bool (sameQ q p))/\Bl w w'):=fun w hb=>qSame_any hsm (hv.bl hb) (hu.bl hb);have HYS:Hid (∀w,Bl W w->Calls Tryz.prog 21 #[v,u] w fun e w'=>e= .returned (.bool (sameQ q p))/\Bl w w'):=fun w hb=>ySame_any hsm w v u (hv.bl hb) (hu.bl hb);have HSS:Hid (∀w,Bl W w->Calls Tryz.prog 12 #[v,v] w fun e w'=>e= .returned (.bool true)/\Bl w w'):=fun w hb=>by
  have h:=qSame_any hsm (hv.bl hb) (hv.bl hb);rw[sameQ_self] at h;exact h
 have HGR:Hid (∀w,Bl W w->Calls Tryz.prog 25 #[v] w fun e w'=>e= .returned (.bool (groupedQ q))/\Bl w w'):=fun w hb=>qGrouped_any hsm w v (hv.bl hb);have HYG:Hid (∀w,Bl W w->Calls Tryz.prog 26 #[v] w fun e w'=>e= .returned (.bool (groupedQ q))/\Bl w w'):=fun w hb=>yGrouped_any hsm w v (hv.bl hb);have HYR:Hid (∀w,Bl W w->Calls Tryz.prog 29 #[v] w fun e w'=>e= .returned (.bool (d3e q))/\Bl w w'):=fun w hb=>yRight_any hok hk w v (hv.bl hb);have HYX:Hid (d3e q=true->∀w,Bl W w->Calls Tryz.prog 31 #[v] w fun e w'=>e= .returned (S s)/\Bl w w'):=fun h w hb=>by
  obtain⟨rfl,-⟩:=hT.yes h;exact yText_any hok h w v (hv.bl hb)
 have hnr:d3e q=false->s=[]/\c=2:=hT.no;have hyr:d3e q=true->c=0:=fun h=>(hT.yes h).2;have HNR:=aB hnr;have HYY:=aB hyr;clear hnr hyr;obtain⟨si,sj,sw,sg,sh,so,rfl,hp⟩:=hv;obtain⟨ui,uj,uw,ug,uh,uo,rfl,hp2⟩:=hu;obtain⟨ai,ci,aj,cj,aw,cw,ag,cg,ah,ch,ao,co,rfl,rfl,rfl,rfl,rfl,rfl⟩:=hp.slices;obtain⟨bi,di,bj,dj,bw,dw,bg,dg,bh,dh,bo,do',rfl,rfl,rfl,rfl,rfl,rfl⟩:=hp2.slices;have HX:=aB (bT ((aW (W.alloc (.cells (quC q (.slice ai q.items.length ci) (.slice aj q.joins.length cj) (.slice aw q.wher.args.length cw) (.slice ag q.group.length cg) (.slice ah q.having.args.length ch) (.slice ao q.orders.length co)).toArray 36)) (.cells (quC p (.slice bi p.items.length di) (.slice bj p.joins.length dj) (.slice bw p.wher.args.length dw) (.slice bg p.group.length dg) (.slice bh p.having.args.length dh) (.slice bo p.orders.length do')).toArray 36) (by simp)).trans (aN W (.cells (quC q (.slice ai q.items.length ci) (.slice aj q.joins.length cj) (.slice aw q.wher.args.length cw) (.slice ag q.group.length cg) (.slice ah q.having.args.length ch) (.slice ao q.orders.length co)).toArray 36))) (aV (k:=W.heap.size+1) (W.alloc (.cells (quC q (.slice ai q.items.length ci) (.slice aj q.joins.length cj) (.slice aw q.wher.args.length cw) (.slice ag q.group.length cg) (.slice ah q.having.args.length ch) (.slice ao q.orders.length co)).toArray 36)) (.cells (quC p (.slice bi p.items.length di) (.slice bj p.joins.length dj) (.slice bw p.wher.args.length dw) (.slice bg p.group.length dg) (.slice bh p.having.args.length dh) (.slice bo p.orders.length do')).toArray 36) (by simp)));have HB:=aB (((Bl.refl W).alloc (.cells (quC q (.slice ai q.items.length ci) (.slice aj q.joins.length cj) (.slice aw q.wher.args.length cw) (.slice ag q.group.length cg) (.slice ah q.having.args.length ch) (.slice ao q.orders.length co)).toArray 36)).alloc (.cells (quC p (.slice bi p.items.length di) (.slice bj p.joins.length dj) (.slice bw p.wher.args.length dw) (.slice bg p.group.length dg) (.slice bh p.having.args.length dh) (.slice bo p.orders.length do')).toArray 36));have HIT:Hid (∀w,Bl W w->Calls Tryz.prog 24 #[.slice ai q.items.length ci] w fun e w'=>e= .returned (.tuple #[S t,.int .i64 d])/\Bl w w'):=fun w hb=>by
  cases h:d4l q.items
  ·obtain⟨rfl,rfl⟩:=hT.nit h;exact qItemsText_no hok.li hok.items h (hp.items.bl hb) (hG.bl hb)
  ·obtain⟨rfl,rfl⟩:=hT.its h;exact qItemsText_yes hok.li hok.items h (its_few hg hfq h) (hp.items.bl hb) (hG.bl hb)
 have HYI:Hid (∀w,Bl W w->Calls Tryz.prog 27 #[.slice ai q.items.length ci] w fun e w'=>e= .returned (.bool (d4l q.items))/\Bl w w'):=fun w hb=>yItems_any hok.li (fun i m=>⟨hok.items i m,hk.items i m⟩) (hp.items.bl hb);have HYT:Hid (d4l q.items=true->∀w,Bl W w->Calls Tryz.prog 28 #[.slice ai q.items.length ci] w fun e w'=>e= .returned (S t)/\Bl w w'):=fun h w hb=>by
  obtain⟨rfl,-⟩:=hT.its h;exact yItemsText_any hok.li (fun i m=>⟨hok.items i m,its_right h i m⟩) (its_few hg hfq h) (hp.items.bl hb)
 have HNI:Hid (d4l q.items=false->t=[]/\d=2):=hT.nit;have HYD:Hid (d4l q.items=true->d=0):=fun h=>(hT.its h).2;have HST:Hid (s.length<=100000000/\t.length<=100000000):=by
  refine⟨?_,?_⟩
  ·cases h:d3e q
   ·rw[(hT.no h).1];simp
   ·rw[(hT.yes h).1];exact hok.text h
  ·cases h:d4l q.items
   ·rw[(hT.nit h).1];simp
   ·rw[(hT.its h).1];exact its_few hg hfq h
 clear hp hp2 hG hf1 hf2 hok hsm hsm2 hk hg hg2 hfq hfp hT HV HU;generalize sameQ q p=zz at *;generalize groupedQ q=gg at *;go_enter Tryz.func5,Tryz.ntmps5;go_wp2_with (refine wpList_load_row rfl 36 (.tmp 2) rfl W.heap.size rfl 36 _ (0,0) _ HX.o.1 Tryz.underlying36 rfl tC ?_)
 go_wp2_with fail;refine(HF1.o _ HB.o).mono ?_;rintro e w1 ⟨rfl,hb1⟩;have HX1:=aB (eB HX.o hb1);have HB1:=aB (HB.o.call hb1);clear hb1 HX HB;go_wp2_with (refine load_rowG (by first |rfl|(simp[jG,yielded];done)|(simp[jG,yielded];omega)) 36 (.tmp 3) rfl (W.heap.size+1) rfl 36 _ (0,0) _ HX1.o.2 Tryz.underlying36 rfl tC ?_)
 go_wp2_with fail;refine(HF2.o _ HB1.o).mono ?_;rintro e w2 ⟨rfl,hb2⟩;have HX2:=aB (eB HX1.o hb2);have HB2:=aB (HB1.o.call hb2);clear hb2 HX1 HB1 HF1 HF2;go_wp2_with (refine wpList_load_row rfl 36 (.tmp 2) rfl W.heap.size rfl 36 _ (0,0) _ HX2.o.1 Tryz.underlying36 rfl tC ?_)
 go_wp2_with fail;refine(HTX.o _ HB2.o).mono ?_;rintro e w3 ⟨rfl,hb3⟩;have HX3:=aB (eB HX2.o hb3);have HB3:=aB (HB2.o.call hb3);clear hb3 HX2 HB2 HTX;have hi1:w3.cell? ⟨W.heap.size,1,none⟩=some (.slice ai q.items.length ci):=(aG HX3.o.1 1).trans rfl;go_wp2_with fail;refine(HIT.o _ HB3.o).mono ?_;rintro e w4 ⟨rfl,hb4⟩;have HX4:=aB (eB HX3.o hb4);have HB4:=aB (HB3.o.call hb4);clear hb4 HX3 HB3 HIT hi1;go_wp2_with fail;refine wp_region_noPanic (bM (fun B=>B.heap[W.heap.size]?=some (.cells (quC q (.slice ai q.items.length ci) (.slice aj q.joins.length cj) (.slice aw q.wher.args.length cw) (.slice ag q.group.length cg) (.slice ah q.having.args.length ch) (.slice ao q.orders.length co)).toArray 36 (0,0))/\B.heap[W.heap.size+1]?=some (.cells (quC p (.slice bi p.items.length di) (.slice bj p.joins.length dj) (.slice bw p.wher.args.length dw) (.slice bg p.group.length dg) (.slice bh p.having.args.length dh) (.slice bo p.orders.length do')).toArray 36 (0,0))) ((.take 0 (.take 1 (.take 3 (.take 4 (.one 2 (.one 5 (.take 6 (.take 7 (.take 8 (.take 9 (.one 10 (.take 11 (.take 12 (.take 13 (.take 14 (.take 16 (.one 15 (.one 17 (.take 18 (.take 19 .done))))))))))))))))))))) (by kernel_rfl) (by kernel_rfl) (by kernel_rfl) (fun _ _ _ _ _ h=>h) ((eB HX4.o ((Bl.refl _).drew))) ?_);intro wd HWD hY;refine aI rfl (by rfl) (fun w hSw=>eD rfl rfl hSw.1 Tryz.underlying36 rfl tC) ?_;(try simp only[aK,aA,aD,aF])
 refine aI rfl (by rfl) (fun w hSw=>eD rfl rfl hSw.2 Tryz.underlying36 rfl tC) ?_;(try simp only[aK,aA,aD,aF])
 refine aI rfl (by rfl) (fun w hSw=>eD rfl rfl hSw.1 Tryz.underlying36 rfl tC) ?_;(try simp only[aK,aA,aD,aF])
 refine aI rfl (by rfl) (fun w hSw=>eD rfl rfl hSw.2 Tryz.underlying36 rfl tC) ?_;(try simp only[aK,aA,aD,aF])
 refine aL rfl (fun K hK=>?_);go_simp;(refine(HSM.o _ (HB4.o.call HWD.o)).mono ?_;rintro e w5 ⟨rfl,hb5⟩;have hb:=hb5);go_wp2_with fail;refine hK.o _ _ ((by first |exact hY|exact eB hY hb)) ?_;clear hY hK K;intro hY;clear hb;refine aL rfl (fun K hK=>?_);go_simp;(refine(HYS.o _ ((HB4.o.call HWD.o).call hb5)).mono ?_;rintro e w6 ⟨rfl,hb6⟩;have hb:=hb6);go_wp2_with fail;refine hK.o _ _ ((by first |exact hY|exact eB hY hb)) ?_;clear hY hK K;intro hY;clear hb;iterate 2 (refine aI rfl (by rfl) (by intro w hSw;(try dsimp only at hSw);skip;go_simp;(try(first |with_reducible rfl|rfl))) ?_;(try simp only[aK,aA,aD,aF]))
 refine aI rfl (by rfl) (fun w hSw=>eD rfl rfl hSw.1 Tryz.underlying36 rfl tC) ?_;(try simp only[aK,aA,aD,aF])
 refine aI rfl (by rfl) (fun w hSw=>eD rfl rfl hSw.1 Tryz.underlying36 rfl tC) ?_;(try simp only[aK,aA,aD,aF])
 refine aL rfl (fun K hK=>?_);go_simp;(refine(HSS.o _ (((HB4.o.call HWD.o).call hb5).call hb6)).mono ?_;rintro e w7 ⟨rfl,hb7⟩;have hb:=hb7);go_wp2_with fail;refine hK.o _ _ ((by first |exact hY|exact eB hY hb)) ?_;clear hY hK K;intro hY;clear hb;iterate 3 (refine aI rfl (by rfl) (by intro w hSw;(try dsimp only at hSw);skip;go_simp;(try(first |with_reducible rfl|rfl))) ?_;(try simp only[aK,aA,aD,aF]))
 refine aI rfl (by rfl) (fun w hSw=>eD rfl rfl hSw.1 Tryz.underlying36 rfl tC) ?_;(try simp only[aK,aA,aD,aF])
 refine aI rfl (by rfl) (fun w hSw=>eD rfl rfl hSw.1 Tryz.underlying36 rfl tC) ?_;(try simp only[aK,aA,aD,aF])
 refine aL rfl (fun K hK=>?_);go_simp;(refine(HGR.o _ ((((HB4.o.call HWD.o).call hb5).call hb6).call hb7)).mono ?_;rintro e w8 ⟨rfl,hb8⟩;have hb:=hb8);go_wp2_with fail;refine hK.o _ _ ((by first |exact hY|exact eB hY hb)) ?_;clear hY hK K;intro hY;clear hb;refine aL rfl (fun K hK=>?_);go_simp;(refine(HYG.o _ (((((HB4.o.call HWD.o).call hb5).call hb6).call hb7).call hb8)).mono ?_;rintro e w9 ⟨rfl,hb9⟩;have hb:=hb9);go_wp2_with fail;refine hK.o _ _ ((by first |exact hY|exact eB hY hb)) ?_;clear hY hK K;intro hY;clear hb;iterate 2 (refine aI rfl (by rfl) (by intro w hSw;(try dsimp only at hSw);skip;go_simp;(try(first |with_reducible rfl|rfl))) ?_;(try simp only[aK,aA,aD,aF]))
 refine fO (bF ?_)
 go_upto_region 7 with fail
 have HB9:=aB ((((((HB4.o.call HWD.o).call hb5).call hb6).call hb7).call hb8).call hb9);have HX9:=aB hY;clear hY hb5 hb6 hb7 hb8 hb9 HB4 HX4 HWD HSM HYS HSS HGR HYG
 go_cut [78] from 49 to 78 (fun tt wc=>tt= .bool false/\Hid (Bl W wc)/\Hid (wc.heap[W.heap.size]?=some (.cells (quC q (.slice ai q.items.length ci) (.slice aj q.joins.length cj) (.slice aw q.wher.args.length cw) (.slice ag q.group.length cg) (.slice ah q.having.args.length ch) (.slice ao q.orders.length co)).toArray 36 (0,0))))
 case first=>
  have hi1:w9.cell? ⟨W.heap.size,1,none⟩=some (.slice ai q.items.length ci):=(aG HX9.o.1 1).trans rfl;cases hIt:d4l q.items
  ·obtain⟨rfl,rfl⟩:=HNI.o hIt;rw[hIt] at HYI;clear HNI HYD HYT HNR HYY HCK HYR HYX hIt;go_wp2_with fail;refine(HYI.o _ HB9.o).mono ?_;rintro e wa ⟨rfl,hba⟩;have HBa:=aB (HB9.o.call hba);have HXa:=aB (keep1 HX9.o.1 hba);clear hba hi1;have hi1:wa.cell? ⟨W.heap.size,1,none⟩=some (.slice ai q.items.length ci):=(aG HXa.o 1).trans rfl;go_wp2_with fail
   (with_reducible refine(d7k _ _).mono ?_)
   rintro e w' ⟨rfl,rfl⟩;go_wp2_with fail;refine(HYI.o _ HBa.o).mono ?_;rintro e wb ⟨rfl,hbb⟩;have HXb:=aB (keep1 HXa.o hbb);clear hi1;go_wp2
   go_meet
   case rel=>exact⟨rfl,HBa.o.call hbb,HXb.o⟩
  ·obtain rfl:=HYD.o hIt;rw[hIt] at HYI;have HYT2:=aB (HYT.o hIt);have hlt:=HST.o.2;clear HNI HYD HYT HNR HYY HCK HYR HYX hIt;go_wp2_with fail;refine(HYI.o _ HB9.o).mono ?_;rintro e wa ⟨rfl,hba⟩;have HBa:=aB (HB9.o.call hba);have HXa:=aB (keep1 HX9.o.1 hba);clear hba hi1;have hi1:wa.cell? ⟨W.heap.size,1,none⟩=some (.slice ai q.items.length ci):=(aG HXa.o 1).trans rfl;go_wp2_with fail;refine(HYI.o _ HBa.o).mono ?_;rintro e wb ⟨rfl,hbb⟩;have HBb:=aB (HBa.o.call hbb);have HXb:=aB (keep1 HXa.o hbb);clear hbb hi1;have hi1:wb.cell? ⟨W.heap.size,1,none⟩=some (.slice ai q.items.length ci):=(aG HXb.o 1).trans rfl;go_wp2_with fail;refine(HYT2.o _ HBb.o).mono ?_;rintro e wc ⟨rfl,hbc⟩;have HBc:=aB (HBb.o.call hbc);have HXc:=aB (keep1 HXb.o hbc);clear hbc hi1;go_wp2_with fail
   (with_reducible refine(d7k _ _).mono ?_)
   rintro e w' ⟨rfl,rfl⟩;go_wp2
   go_meet
   case rel=>exact⟨rfl,HBc.o,HXc.o⟩
 case rest=>
 clear HB9 HX9 HYI HYT HNI HYD;obtain⟨rfl,HB9,HX9⟩:=hcut;go_wp2_with (refine wpList_load_row rfl 36 (.tmp 2) rfl W.heap.size rfl 36 _ (0,0) _ HX9.o Tryz.underlying36 rfl tC ?_)
 go_wp2_with fail;refine(HYR.o _ HB9.o).mono ?_;rintro e wa ⟨rfl,hba⟩;have HBa:=aB (HB9.o.call hba);have HXa:=aB (keep1 HX9.o hba);clear hba;cases hQ:d3e q
 ·obtain⟨rfl,rfl⟩:=HNR.o hQ;clear hQ HYX HNR HYY HST HYR;go_wp2_with fail
  (with_reducible refine(d7k _ _).mono ?_)
  rintro e w' ⟨rfl,rfl⟩;go_wp2_with (refine load_rowG (by first |rfl|(simp[jG,yielded];done)|(simp[jG,yielded];omega)) 36 (.tmp 2) rfl W.heap.size rfl 36 _ (0,0) _ HXa.o Tryz.underlying36 rfl tC ?_)
  go_wp2_with fail;refine(HCK.o _ HBa.o).mono ?_;rintro e wb ⟨rfl,hbb⟩;have HBb:=aB (HBa.o.call hbb);go_wp2_with fail
  (with_reducible refine(d7k _ _).mono ?_)
  rintro e w' ⟨rfl,rfl⟩;go_wp2_with fail
  (with_reducible refine(d7c _ (HG.o.bl (HBb.o))).mono ?_)
  rintro e w9 ⟨rfl,hb9⟩;go_wp2;go_ret;exact⟨rfl,(HBb.o).call hb9⟩
 ·obtain rfl:=HYY.o hQ;have HYX2:=aB (HYX.o hQ);have hls:=HST.o.1;clear hQ HYX HNR HYY HST HYR;go_wp2_with fail;refine wp_region_noPanic (bM (fun B=>B.heap[W.heap.size]?=some (.cells (quC q (.slice ai q.items.length ci) (.slice aj q.joins.length cj) (.slice aw q.wher.args.length cw) (.slice ag q.group.length cg) (.slice ah q.having.args.length ch) (.slice ao q.orders.length co)).toArray 36 (0,0))) ((.take 0 (.take 1 (.one 2 (.take 3 (.take 4 (.take 5 (.take 7 (.one 6 (.one 8 (.one 9 (.take 10 (.take 11 (.take 12 (.take 13 (.one 14 (.take 15 (.take 16 .done)))))))))))))))))) (by kernel_rfl) (by kernel_rfl) (by kernel_rfl) (fun _ _ _ _ _ h=>h) ((keep1 HXa.o ((Bl.refl _).drew))) ?_);intro wd HWD hY;refine aI rfl (by rfl) (by intro w hSw;(try dsimp only at hSw);skip;go_simp;(try(first |with_reducible rfl|rfl))) ?_;(try simp only[aK,aA,aD,aF])
  refine aI rfl (by rfl) (fun w hSw=>eD rfl rfl hSw Tryz.underlying36 rfl tC) ?_;(try simp only[aK,aA,aD,aF])
  refine aL rfl (fun K hK=>?_);go_simp;(refine(HYX2.o _ (HBa.o.call HWD.o)).mono ?_;rintro e wb ⟨rfl,hbb⟩;have hb:=hbb);go_wp2_with fail;refine hK.o _ _ ((by first |exact hY|exact keep1 hY hb)) ?_;clear hY hK K;intro hY;clear hb;iterate 3 (refine aI rfl (by rfl) (by intro w hSw;(try dsimp only at hSw);skip;go_simp;(try(first |with_reducible rfl|rfl))) ?_;(try simp only[aK,aA,aD,aF]))
  refine aI rfl (by rfl) (fun w hSw=>eD rfl rfl hSw Tryz.underlying36 rfl tC) ?_;(try simp only[aK,aA,aD,aF])
  refine aL rfl (fun K hK=>?_);go_simp;(refine(d7k _ _).mono ?_;rintro e w' ⟨rfl,rfl⟩);go_wp2_with fail;refine hK.o _ _ ((by first |exact hY|exact keep1 hY hb)) ?_;clear hY hK K;intro hY;refine aL rfl (fun K hK=>?_);go_simp;(refine(HCK.o _ ((HBa.o.call HWD.o).call hbb)).mono ?_;rintro e wd2 ⟨rfl,hbd⟩;have hb:=hbd);go_wp2_with fail;refine hK.o _ _ ((by first |exact hY|exact keep1 hY hb)) ?_;clear hY hK K;intro hY;clear hb;refine aL rfl (fun K hK=>?_);go_simp;(refine(d7k _ _).mono ?_;rintro e w' ⟨rfl,rfl⟩);go_wp2_with fail;refine hK.o _ _ ((by first |exact hY|exact keep1 hY hb)) ?_;clear hY hK K;intro hY;iterate 4 (refine aI rfl (by rfl) (by intro w hSw;(try dsimp only at hSw);skip;go_simp;(try(first |with_reducible rfl|rfl))) ?_;(try simp only[aK,aA,aD,aF]))
  refine aL rfl (fun K hK=>?_);go_simp;(refine(d7c _ (HG.o.bl (((HBa.o.call HWD.o).call hbb).call hbd))).mono ?_;rintro e we ⟨rfl,hbe⟩;have hb:=hbe);go_wp2_with fail;refine hK.o _ _ ((by first |exact hY|exact keep1 hY hb)) ?_;clear hY hK K;intro hY;clear hb;iterate 2 (refine aI rfl (by rfl) (by intro w hSw;(try dsimp only at hSw);skip;go_simp;(try(first |with_reducible rfl|rfl))) ?_;(try simp only[aK,aA,aD,aF]))
  refine fO (bF ?_);go_wp2;go_ret;exact⟨rfl,(((HBa.o.call HWD.o).call hbb).call hbd).call hbe⟩
theorem qtexts_all(q p:Qu)(W:World)(v u:Value)(hv:d5o W q v)(hu:d5o W p u)(hg:GoodQ q)(hg2:GoodQ p)(hG:nD W):Calls Tryz.prog 5 #[v,u] W (Yes W):=by
 have h1:∀w,Bl W w->Calls Tryz.prog 6 #[v] w fun e w'=>e= .returned (.bool (fewB q))/\Bl w w':=fun w hb=>few17_any (hv.bl hb);have h2:∀w,Bl W w->Calls Tryz.prog 6 #[u] w fun e w'=>e= .returned (.bool (fewB p))/\Bl w w':=fun w hb=>few17_any (hu.bl hb);cases hq:fewB q
 ·rw[hq] at h1;exact qtexts_off q p W v u hv hu hG _ _ rfl h1 h2
 ·cases hp:fewB p
  ·rw[hq] at h1;rw[hp] at h2;exact qtexts_off q p W v u hv hu hG _ _ rfl h1 h2
  ·rw[hq] at h1;rw[hp] at h2;exact qtexts_on q p W v u hv hu hg hg2 hG hq hp h1 h2
end
end Go.Proofs.YtfkekkgfmhcanaaGreatDoor
