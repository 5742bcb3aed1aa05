/- Texts beside the shared ones. -/
import Derived.Test.YtohlomdapelgeaaGreatDoorWX0
import Derived.Test.YtohlomdapelgeaaGreatDoorWWC
namespace Go.Proofs.YtohlomdapelgeaaGreatDoor
open _root_.Go.Proofs.Tryz
open Go.RowKit
open _root_.Go.Act renaming put->aK
open _root_.Go.Lib renaming hid->aB
open _root_.List renaming getElem?_eq_some_iff->aO,setIfInBounds_toArray->aA,set_cons_succ->aF,set_cons_zero->aD
open _root_.Nat renaming zero_le->dL
open NoPanic renaming normal->bF
open _root_.Go.Region renaming wanted->jG
set_option maxRecDepth 100000
set_option maxHeartbeats 8000000
section
structure LenW(w:Wr):Prop where
 cols:w.cols.length<=9223372036854775807
 conf:w.conf.length<=9223372036854775807
 sets:w.sets.length<=9223372036854775807
 ret:w.ret.length<=9223372036854775807
 rows:w.rows.length<=9223372036854775807
 whens:w.whens.length<=9223372036854775807
 row:∀r∈w.rows,r.length<=9223372036854775807
 when':∀x∈w.whens,x.sets.length<=9223372036854775807/\x.cols.length<=9223372036854775807/\x.vals.length<=9223372036854775807
 items:w.query.items.length<=9223372036854775807
 joins:w.query.joins.length<=9223372036854775807
 group:w.query.group.length<=9223372036854775807
 orders:w.query.orders.length<=9223372036854775807
theorem range2{B:World}{b o:Nat}{u v:Value}{cs:List Value}(h:d2k B b o (u::v::cs)):B.rangeAt b (o+2) cs:=fun i x hx=>by
 have:=h (i+2) x (by simpa using hx);rw[show o+2+i=o+(i+2) by omega];exact this
theorem rangeP{B:World}{b o:Nat}{cs ds:List Value}(h:d2k B b o (cs++ds)):B.rangeAt b o cs:=fun i x hx=>h i x (by rw[List.getElem?_append_left (aO.1 hx).1];exact hx)
abbrev SomeB(W:World):Ending->World->Prop:=fun e w'=>(∃b:Bool,e= .returned (.bool b))/\Bl W w'
theorem query18_any{q:Qu}(hi:q.items.length<=9223372036854775807)(hj:q.joins.length<=9223372036854775807)(hg:q.group.length<=9223372036854775807)(ho:q.orders.length<=9223372036854775807)(W:World){v:Value}(hv:d5o W q v):Calls Tryz.prog 29 #[v] W (SomeB W):=by
 obtain⟨si,sj,sw,sg,sh,so,rfl,hp⟩:=hv;obtain⟨ai,ci,aj,cj,aw,cw,ag,cg,ah,ch,ao,co,rfl,rfl,rfl,rfl,rfl,rfl⟩:=hp.slices;have HI:=aB (fun(B:World) (hb:Bl W B)=>items18_any hi (hp.items.bl hb));have HG:=aB (fun(B:World) (hb:Bl W B)=>exprs18_any hg ((rowsg_ex hp.group).bl hb));have HV1:=aB (fun(B:World) (hb:Bl W B)=>vast18 q.wher B (.agg (qD q.wher (.slice aw q.wher.args.length cw)).toArray) ⟨_,rfl,hp.wher.reads.bl hb⟩);have HV2:=aB (fun(B:World) (hb:Bl W B)=>vast18 q.having B (.agg (qD q.having (.slice ah q.having.args.length ch)).toArray) ⟨_,rfl,hp.having.reads.bl hb⟩);have HJ:=aB (d6j hp.joins);have HO:=aB (d6j hp.orders);clear hp hi hg;generalize partsV 200 30 q.wher=n1 at *;generalize partsV 200 30 q.having=n2 at *;generalize fewL itF q.items=b1 at *;generalize fewL exF q.group=b2 at *;obtain⟨z,hz⟩:∃z,IntKind.i64.wrap ((q.frm.t.length:Int)+(q.frm.al.length:Int))=z:=⟨_,rfl⟩
 go_enter func29,ntmps29;go_wp2_with (refine wpList_boxO rfl 41 (.tmp 0) rfl (quC q (.slice ai q.items.length ci) (.slice aj q.joins.length cj) (.slice aw q.wher.args.length cw) (.slice ag q.group.length cg) (.slice ah q.having.args.length ch) (.slice ao q.orders.length co)) rfl ?_)
 intro w0 hb0 hX0;have HB:=aB hb0;have HX:=aB hX0;clear hb0 hX0;have c1:=cell_of (i:=1) HX.o rfl;go_wp2_with fail;refine(HI.o _ HB.o).mono ?_;rintro e w9 ⟨rfl,hb9⟩;clear c1
 replace HX:=aB (keep_b HX.o hb9)
 replace HB:=aB (HB.o.call hb9)
 clear hb9;cases b1
 ·skip
  go_wp2;go_ret;exact⟨⟨_,rfl⟩,HB.o⟩
 have c4:=cell_of (i:=4) HX.o rfl;by_cases h2:10<q.joins.length
 ·have h2':(10:Int)<(q.joins.length:Int):=by omega
  clear h2;go_wp2;go_ret;exact⟨⟨_,rfl⟩,HB.o⟩
 have h2':¬(10:Int)<(q.joins.length:Int):=aE;clear h2;go_wp2_with (refine wpList_load_midG ar 38 (.tmp 16) rfl W.heap.size 5 rfl (qD q.wher (.slice aw q.wher.args.length cw)) _ (range_of HX.o rfl) Tryz.underlying38 rfl d4b ?_)
 refine(HV1.o _ HB.o).mono ?_;rintro e w9 ⟨rfl,hb9⟩;clear c4
 replace HX:=aB (keep_b HX.o hb9)
 replace HB:=aB (HB.o.call hb9)
 clear hb9;by_cases h3:30<n1
 ·have h3':(30:Int)<(n1:Int):=by omega
  clear h3;go_wp2;go_ret;exact⟨⟨_,rfl⟩,HB.o⟩
 have h3':¬(30:Int)<(n1:Int):=aE;clear h3;go_wp2_with (refine wpList_load_midG ar 38 (.tmp 22) rfl W.heap.size 14 rfl (qD q.having (.slice ah q.having.args.length ch)) _ (range_of HX.o rfl) Tryz.underlying38 rfl d4b ?_)
 refine(HV2.o _ HB.o).mono ?_;rintro e w9 ⟨rfl,hb9⟩
 replace HX:=aB (keep_b HX.o hb9)
 replace HB:=aB (HB.o.call hb9)
 clear hb9;by_cases h4:30<n2
 ·have h4':(30:Int)<(n2:Int):=by omega
  clear h4;go_wp2;go_ret;exact⟨⟨_,rfl⟩,HB.o⟩
 have h4':¬(30:Int)<(n2:Int):=aE;clear h4;have c13:=cell_of (i:=13) HX.o rfl;go_wp2_with fail;refine(HG.o _ HB.o).mono ?_;rintro e w9 ⟨rfl,hb9⟩;clear c13
 replace HX:=aB (keep_b HX.o hb9)
 replace HB:=aB (HB.o.call hb9)
 clear hb9;cases b2
 ·skip
  go_wp2;go_ret;exact⟨⟨_,rfl⟩,HB.o⟩
 have c22:=cell_of (i:=22) HX.o rfl;by_cases h5:40<q.orders.length
 ·have h5':(40:Int)<(q.orders.length:Int):=by omega
  clear h5;go_wp2;go_ret;exact⟨⟨_,rfl⟩,HB.o⟩
 have h5':¬(40:Int)<(q.orders.length:Int):=aE;clear h5;have c2:=cell_of (i:=2) HX.o rfl;have c3:=cell_of (i:=3) HX.o rfl;by_cases h6:200<z
 ·skip
  go_wp2;go_ret;exact⟨⟨_,rfl⟩,HB.o⟩
 go_wp2_with fail;clear c22 c2 c3 h2' h3' h4' h5' h6 hz;go_loopw [3] (fun i wr=>∃j:Nat,j<=q.joins.length/\i= .int .i64 (j:Int)/\Hid (Bl W wr)/\Hid (wr.heap[W.heap.size]?=some (.cells (quC q (.slice ai q.items.length ci) (.slice aj q.joins.length cj) (.slice aw q.wher.args.length cw) (.slice ag q.group.length cg) (.slice ah q.having.args.length ch) (.slice ao q.orders.length co)).toArray 41 (0,0)))) (fun i _=>q.joins.length-(intOf i).toNat)
 case atStart=>exact⟨0,dL _,rfl,HB,HX⟩
 case round=>
  clear HB HX;obtain⟨j,hjl,rfl,HB,HX⟩:=hrel;have c4:=cell_of (i:=4) HX.o rfl;by_cases hlt:j<q.joins.length
  ·as_aux_lemma=>
   obtain⟨b,off,s,ha,hbl,hcs,hr⟩:=HJ.o j hlt;subst ha;have HV:=aB (fun(B:World) (hb:Bl W B)=>vast18 q.joins[j].on B (.agg (qD q.joins[j].on s).toArray) ⟨_,rfl,hr.reads.bl hb⟩);have HCS:=aB (show d2k wr b (off+j * 10) (S q.joins[j].s.t::S q.joins[j].s.al::qD q.joins[j].on s) from hcs.keep (HB.o.block b hbl));have hlt':(j:Int)<(q.joins.length:Int):=aE;clear hr hcs;generalize q.joins[j]=y at *;generalize partsV 200 30 y.on=n at *;obtain⟨z,hz⟩:∃z,IntKind.i64.wrap ((y.s.t.length:Int)+(y.s.al.length:Int))=z:=⟨_,rfl⟩
   by_cases h3:30<n
   ·have h3':(30:Int)<(n:Int):=by omega
    clear h3;go_wp2_with fail;refine wp_region_noPanic (bM (fun B=>B.heap[W.heap.size]?=some (.cells (quC q (.slice ai q.items.length ci) (.slice (some ⟨b,off,none⟩) q.joins.length cj) (.slice aw q.wher.args.length cw) (.slice ag q.group.length cg) (.slice ah q.having.args.length ch) (.slice ao q.orders.length co)).toArray 41 (0,0))/\d2k B b (off+j * 10) (S y.s.t::S y.s.al::qD y.on s)) ((.take 0 (.take 1 (.take 2 (.take 3 (.take 4 (.take 5 (.one 6 (.take 7 (.take 8 (.take 9 (.take 10 (.take 11 (.take 12 (.take 13 (.take 14 (.take 15 (.take 16 (.take 17 (.take 18 (.take 19 (.take 20 (.take 21 (.take 22 (.take 23 (.take 24 (.take 25 (.take 26 (.take 27 .done))))))))))))))))))))))))))))) af af af (fun _ _ _ _ _ h=>h) (⟨keep_b HX.o ((Bl.refl _).drew),HCS.o.keep (((Bl.refl _).drew).block _ (HCS.o.lt (Nat.succ_pos _)))⟩) ?_);intro wd HWD hY;iterate 5 (refine aI rfl ab (by intro w hSw;(try dsimp only at hSw);have c4:=cell_of (i:=4) hSw.1 rfl;have j0:=d2k.cell0 hSw.2 rfl;have j1:=hSw.2 1 _ rfl;go_simp;(try(first |with_reducible rfl|rfl))) ?_;(try simp only[aK,aA,aD,aF]))
    refine aI rfl ab (fun wS hSw=>run_load_midO rfl rfl (range2 hSw.2) Tryz.underlying38 rfl d4b) ?_;(try simp only[aK,aA,aD,aF])
    refine aL rfl (fun K hK=>?_);go_simp;(refine(HV.o _ (HB.o.call HWD.o)).mono ?_;rintro e z6 ⟨rfl,hb6⟩;have HB6:=aB ((HB.o.call HWD.o).call hb6));go_wp2_with fail;refine hK.o _ _ ((by first |exact hY|exact⟨keep_b hY.1 hb6,hY.2.keep (hb6.block _ (hY.2.lt (Nat.succ_pos _)))⟩)) ?_;clear hY hK K;intro hY;iterate 2 (refine aI rfl ab (by intro w hSw;(try dsimp only at hSw);have c4:=cell_of (i:=4) hSw.1 rfl;have j0:=d2k.cell0 hSw.2 rfl;have j1:=hSw.2 1 _ rfl;go_simp;(try(first |with_reducible rfl|rfl))) ?_;(try simp only[aK,aA,aD,aF]))
    refine dK rfl ab ?_;(try simp only[aK,aA,aD,aF])
    refine dK rfl ab ?_;(try simp only[aK,aA,aD,aF])
    refine dK rfl ab ?_;(try simp only[aK,aA,aD,aF])
    refine dK rfl ab ?_;(try simp only[aK,aA,aD,aF])
    refine dK rfl ab ?_;(try simp only[aK,aA,aD,aF])
    refine dK rfl ab ?_;(try simp only[aK,aA,aD,aF])
    refine dK rfl ab ?_;(try simp only[aK,aA,aD,aF])
    refine dK rfl ab ?_;(try simp only[aK,aA,aD,aF])
    refine dK rfl ab ?_;(try simp only[aK,aA,aD,aF])
    refine dK rfl ab ?_;(try simp only[aK,aA,aD,aF])
    refine dK rfl ab ?_;(try simp only[aK,aA,aD,aF])
    refine dK rfl ab ?_;(try simp only[aK,aA,aD,aF])
    refine dK rfl ab ?_;(try simp only[aK,aA,aD,aF])
    refine dK rfl ab ?_;(try simp only[aK,aA,aD,aF])
    refine dK rfl ab ?_;(try simp only[aK,aA,aD,aF])
    refine dK rfl ab ?_;(try simp only[aK,aA,aD,aF])
    refine dK rfl ab ?_;(try simp only[aK,aA,aD,aF])
    refine dK rfl ab ?_;(try simp only[aK,aA,aD,aF])
    refine aI rfl ab (by intro w hSw;(try dsimp only at hSw);have c4:=cell_of (i:=4) hSw.1 rfl;have j0:=d2k.cell0 hSw.2 rfl;have j1:=hSw.2 1 _ rfl;go_simp;(try(first |with_reducible rfl|rfl))) ?_;(try simp only[aK,aA,aD,aF])
    refine fO (bF ?_);have HX6:=aB hY.1;clear hY hb6;go_wp2;go_ret;exact⟨⟨_,rfl⟩,HB6.o⟩
   have g3:decide ((30:Int)<(n:Int))=false:=decide_eq_false aE;clear h3;by_cases h6:200<z
   ·have g6:decide (200<z)=true:=decide_eq_true h6;go_wp2_with fail;refine wp_region_noPanic (bM (fun B=>B.heap[W.heap.size]?=some (.cells (quC q (.slice ai q.items.length ci) (.slice (some ⟨b,off,none⟩) q.joins.length cj) (.slice aw q.wher.args.length cw) (.slice ag q.group.length cg) (.slice ah q.having.args.length ch) (.slice ao q.orders.length co)).toArray 41 (0,0))/\d2k B b (off+j * 10) (S y.s.t::S y.s.al::qD y.on s)) ((.take 0 (.take 1 (.take 2 (.take 3 (.take 4 (.take 5 (.one 6 (.take 7 (.take 8 (.take 9 (.take 10 (.take 11 (.take 12 (.take 13 (.take 14 (.take 15 (.take 16 (.take 17 (.take 18 (.take 19 (.take 20 (.take 21 (.take 22 (.take 23 (.take 24 (.take 25 (.take 26 (.take 27 .done))))))))))))))))))))))))))))) af af af (fun _ _ _ _ _ h=>h) (⟨keep_b HX.o ((Bl.refl _).drew),HCS.o.keep (((Bl.refl _).drew).block _ (HCS.o.lt (Nat.succ_pos _)))⟩) ?_);intro wd HWD hY;iterate 5 (refine aI rfl ab (by intro w hSw;(try dsimp only at hSw);have c4:=cell_of (i:=4) hSw.1 rfl;have j0:=d2k.cell0 hSw.2 rfl;have j1:=hSw.2 1 _ rfl;go_simp;(try(first |with_reducible rfl|rfl))) ?_;(try simp only[aK,aA,aD,aF]))
    refine aI rfl ab (fun wS hSw=>run_load_midO rfl rfl (range2 hSw.2) Tryz.underlying38 rfl d4b) ?_;(try simp only[aK,aA,aD,aF])
    refine aL rfl (fun K hK=>?_);go_simp;(refine(HV.o _ (HB.o.call HWD.o)).mono ?_;rintro e z6 ⟨rfl,hb6⟩;have HB6:=aB ((HB.o.call HWD.o).call hb6));go_wp2_with fail;refine hK.o _ _ ((by first |exact hY|exact⟨keep_b hY.1 hb6,hY.2.keep (hb6.block _ (hY.2.lt (Nat.succ_pos _)))⟩)) ?_;clear hY hK K;intro hY;iterate 21 (refine aI rfl ab (by intro w hSw;(try dsimp only at hSw);have c4:=cell_of (i:=4) hSw.1 rfl;have j0:=d2k.cell0 hSw.2 rfl;have j1:=hSw.2 1 _ rfl;go_simp;(try(first |with_reducible rfl|rfl))) ?_;(try simp only[aK,aA,aD,aF]))
    refine fO (bF ?_);have HX6:=aB hY.1;clear hY hb6;go_wp2;go_ret;exact⟨⟨_,rfl⟩,HB6.o⟩
   have g6:decide (200<z)=false:=decide_eq_false h6;go_wp2_with fail;refine wp_region_noPanic (bM (fun B=>B.heap[W.heap.size]?=some (.cells (quC q (.slice ai q.items.length ci) (.slice (some ⟨b,off,none⟩) q.joins.length cj) (.slice aw q.wher.args.length cw) (.slice ag q.group.length cg) (.slice ah q.having.args.length ch) (.slice ao q.orders.length co)).toArray 41 (0,0))/\d2k B b (off+j * 10) (S y.s.t::S y.s.al::qD y.on s)) ((.take 0 (.take 1 (.take 2 (.take 3 (.take 4 (.take 5 (.one 6 (.take 7 (.take 8 (.take 9 (.take 10 (.take 11 (.take 12 (.take 13 (.take 14 (.take 15 (.take 16 (.take 17 (.take 18 (.take 19 (.take 20 (.take 21 (.take 22 (.take 23 (.take 24 (.take 25 (.take 26 (.take 27 .done))))))))))))))))))))))))))))) af af af (fun _ _ _ _ _ h=>h) (⟨keep_b HX.o ((Bl.refl _).drew),HCS.o.keep (((Bl.refl _).drew).block _ (HCS.o.lt (Nat.succ_pos _)))⟩) ?_);intro wd HWD hY;iterate 5 (refine aI rfl ab (by intro w hSw;(try dsimp only at hSw);have c4:=cell_of (i:=4) hSw.1 rfl;have j0:=d2k.cell0 hSw.2 rfl;have j1:=hSw.2 1 _ rfl;go_simp;(try(first |with_reducible rfl|rfl))) ?_;(try simp only[aK,aA,aD,aF]))
   refine aI rfl ab (fun wS hSw=>run_load_midO rfl rfl (range2 hSw.2) Tryz.underlying38 rfl d4b) ?_;(try simp only[aK,aA,aD,aF])
   refine aL rfl (fun K hK=>?_);go_simp;(refine(HV.o _ (HB.o.call HWD.o)).mono ?_;rintro e z6 ⟨rfl,hb6⟩;have HB6:=aB ((HB.o.call HWD.o).call hb6));go_wp2_with fail;refine hK.o _ _ ((by first |exact hY|exact⟨keep_b hY.1 hb6,hY.2.keep (hb6.block _ (hY.2.lt (Nat.succ_pos _)))⟩)) ?_;clear hY hK K;intro hY;iterate 21 (refine aI rfl ab (by intro w hSw;(try dsimp only at hSw);have c4:=cell_of (i:=4) hSw.1 rfl;have j0:=d2k.cell0 hSw.2 rfl;have j1:=hSw.2 1 _ rfl;go_simp;(try(first |with_reducible rfl|rfl))) ?_;(try simp only[aK,aA,aD,aF]))
   refine fO (bF ?_);have HX6:=aB hY.1;clear hY hb6;go_wp2;go_roundw
   case rel=>exact⟨j+1,by omega,by go_num,HB6,HX6⟩
   case measure=>simp[intOf];omega
  ·as_aux_lemma=>
   obtain rfl:j=q.joins.length:=aE;clear hlt hjl;go_wp2_with fail;clear c4;go_loopw [4] (fun i wr=>∃j:Nat,j<=q.orders.length/\i= .int .i64 (j:Int)/\Hid (Bl W wr)/\Hid (wr.heap[W.heap.size]?=some (.cells (quC q (.slice ai q.items.length ci) (.slice aj q.joins.length cj) (.slice aw q.wher.args.length cw) (.slice ag q.group.length cg) (.slice ah q.having.args.length ch) (.slice ao q.orders.length co)).toArray 41 (0,0)))) (fun i _=>q.orders.length-(intOf i).toNat)
   case atStart=>exact⟨0,dL _,rfl,HB,HX⟩
   case round=>
    clear HB HX;obtain⟨j,hjl,rfl,HB,HX⟩:=hrel;have c22:=cell_of (i:=22) HX.o rfl;by_cases hlt:j<q.orders.length
    ·obtain⟨b,off,s,ha,hbl,hcs,hr⟩:=HO.o j hlt;subst ha;have HV:=aB (fun(B:World) (hb:Bl W B)=>vast18 q.orders[j].x B (.agg (qD q.orders[j].x s).toArray) ⟨_,rfl,hr.reads.bl hb⟩);have HCS:=aB (show d2k wr b (off+j * 9) (qD q.orders[j].x s++[.bool q.orders[j].down]) from hcs.keep (HB.o.block b hbl));have hlt':(j:Int)<(q.orders.length:Int):=aE;clear hr hcs;generalize q.orders[j]=y at *;generalize partsV 200 30 y.x=n at *;go_wp2_with (refine wpList_load_mid rfl 38 (.tmp 97) rfl b (off+j * 9) rfl (qD y.x s) _ (rangeP HCS.o) Tryz.underlying38 rfl d4b ?_)
     refine(HV.o _ HB.o).mono ?_;rintro e w9 ⟨rfl,hb9⟩;clear c22
     replace HX:=aB (keep_b HX.o hb9)
     replace HB:=aB (HB.o.call hb9)
     clear hb9;by_cases h3:30<n
     ·have h3':(30:Int)<(n:Int):=by omega
      clear h3;go_wp2;go_ret;exact⟨⟨_,rfl⟩,HB.o⟩
     have h3':¬(30:Int)<(n:Int):=aE;clear h3;go_wp2;go_roundw
     case rel=>exact⟨j+1,by omega,by go_num,HB,HX⟩
     case measure=>simp[intOf];omega
    ·obtain rfl:j=q.orders.length:=by omega
     have hge:¬((q.orders.length:Int)<(q.orders.length:Int)):=aE;go_wp2;go_ret;exact⟨⟨_,rfl⟩,HB.o⟩
end
end Go.Proofs.YtohlomdapelgeaaGreatDoor
