/- Texts beside the shared ones. -/
import Derived.Test.YtfkekkgfmhcanaaGreatDoorTS
import Derived.Test.YtfkekkgfmhcanaaGreatDoorTA
import Derived.Test.YtfkekkgfmhcanaaGreatDoorTB
import Derived.Test.YtfkekkgfmhcanaaGreatDoorTC
import Derived.Test.YtfkekkgfmhcanaaGreatDoorTD
import Derived.Test.YtfkekkgfmhcanaaGreatDoorTE
import Derived.Test.YtfkekkgfmhcanaaGreatDoorTF
import Derived.Test.YtfkekkgfmhcanaaGreatDoorTG
import Derived.Test.YtfkekkgfmhcanaaGreatDoorTH
import Derived.Test.YtfkekkgfmhcanaaGreatDoorTI
import Derived.Test.YtfkekkgfmhcanaaGreatDoorTJ
namespace Go.Proofs.YtfkekkgfmhcanaaGreatDoor
open Go.RowKit
open _root_.Array renaming getElem?_eq_some_iff->aC
open _root_.Go.Lib renaming hid->aB
set_option maxRecDepth 100000
set_option maxHeartbeats 16000000
section
theorem right_int{q:Qu}:d3e q=(d4l q.items&&d4c q.frm&&(d3i q.wher||eH q.wher)&&(d3i q.having||eH q.having&&decide (0<q.group.length))&&decide (-1<=q.limit)&&
  (decide ((q.joins.length:Int)<=4)&&q.joins.all fun j=>d4c j.s&&eH j.on)&&(decide ((q.group.length:Int)<=8)&&q.group.all eH)&&(decide ((q.orders.length:Int)<=8)&&q.orders.all fun o=>eH o.x)):=by
 unfold d3e;rw[show decide (q.joins.length<=4)=decide ((q.joins.length:Int)<=4) from decide_eq_decide.2 (by omega),show decide (q.group.length<=8)=decide ((q.group.length:Int)<=8) from decide_eq_decide.2 (by omega),show decide (q.orders.length<=8)=decide ((q.orders.length:Int)<=8) from decide_eq_decide.2 (by omega)]
theorem qCheck_no{q:Qu}(hq:e1a q)(hr:d3e q=false)(W:World)(v:Value)(hv:d5o W q v)(hG:nD W):Calls Tryz.prog 30 #[v] W fun e w'=>e= .returned (.int .i64 2)/\Bl W w':=by
 obtain⟨si,sj,sw,sg,sh,so,rfl,hp⟩:=hv;obtain⟨ai,ci,aj,cj,aw,cw,ag,cg,ah,ch,ao,co,rfl,rfl,rfl,rfl,rfl,rfl⟩:=hp.shapes;have HE:=aB (right_int.symm.trans hr);have HG:=aB hG;have H1:Hid (∀w,Bl W w->Calls Tryz.prog 65 #[.slice ai q.items.length ci] w fun e w'=>e= .returned (.bool (d4l q.items))/\Bl w w'):=fun w hb=>e1x hq.li hq.items (hp.items.bl hb) (HG.o.bl hb);have H2:Hid (∀w,Bl W w->Calls Tryz.prog 82 #[.agg #[S q.frm.t,S q.frm.al]] w fun e w'=>e= .returned (.bool (d4c q.frm))/\Bl w w'):=fun w hb=>d6r hq.frm w (HG.o.bl hb);have H3:Hid (∀w,Bl W w->Calls Tryz.prog 83 #[EV q.wher.k q.wher.v q.wher.t q.wher.n q.wher.o (.slice aw q.wher.args.length cw)] w fun e w'=>e= .returned (.bool (d3i q.wher))/\Bl w w'):=fun w hb=>d5d hq.wher.parts w _ ⟨_,rfl,hp.wher.reads.bl hb⟩;have H4:Hid (∀w,Bl W w->Calls Tryz.prog 84 #[EV q.wher.k q.wher.v q.wher.t q.wher.n q.wher.o (.slice aw q.wher.args.length cw)] w fun e w'=>e= .returned (.bool (eH q.wher))/\Bl w w'):=fun w hb=>d3u hq.wher w _ ⟨_,rfl,hp.wher.reads.bl hb⟩ (HG.o.bl hb);have H5:Hid (∀w,Bl W w->Calls Tryz.prog 83 #[EV q.having.k q.having.v q.having.t q.having.n q.having.o (.slice ah q.having.args.length ch)] w fun e w'=>e= .returned (.bool (d3i q.having))/\Bl w w'):=fun w hb=>d5d hq.having.parts w _ ⟨_,rfl,hp.having.reads.bl hb⟩;have H6:Hid (∀w,Bl W w->Calls Tryz.prog 84 #[EV q.having.k q.having.v q.having.t q.having.n q.having.o (.slice ah q.having.args.length ch)] w fun e w'=>e= .returned (.bool (eH q.having))/\Bl w w'):=fun w hb=>d3u hq.having w _ ⟨_,rfl,hp.having.reads.bl hb⟩ (HG.o.bl hb);have HJ:Hid (∀w,Bl W w->Calls Tryz.prog 85 #[.slice aj q.joins.length cj,.int .i64 4,.func (.func 86) #[] #[]] w fun e w'=>e= .returned (.bool (decide ((q.joins.length:Int)<=4)&&q.joins.all fun j=>d4c j.s&&eH j.on))/\Bl w w'):=fun w hb=>e2a (g:=86) d7z hq.lj (hp.joins.bl hb) 4 (p:=fun j=>d4c j.s&&eH j.on) fun y hy W' s hb' hs=>e0j (hq.joins y hy).1 (hq.joins y hy).2 hs (HG.o.bl (hb.call hb'));have HG1:Hid (∀w,Bl W w->Calls Tryz.prog 87 #[.slice ag q.group.length cg,.int .i64 8,.func (.func 84) #[] #[]] w fun e w'=>e= .returned (.bool (decide ((q.group.length:Int)<=8)&&q.group.all eH))/\Bl w w'):=fun w hb=>e2d (g:=84) d8y hq.lg (d8w (hp.group.bl hb)) 8 (p:=eH) fun y hy W' s hb' hs=>d3u (hq.group y hy) W' _ ⟨s,rfl,bG.reads hs⟩ (HG.o.bl (hb.call hb'));have HO:Hid (∀w,Bl W w->Calls Tryz.prog 88 #[.slice ao q.orders.length co,.int .i64 8,.func (.func 89) #[] #[]] w fun e w'=>e= .returned (.bool (decide ((q.orders.length:Int)<=8)&&q.orders.all fun o=>eH o.x))/\Bl w w'):=fun w hb=>e1z (g:=89) d7y hq.lo (hp.orders.bl hb) 8 (p:=fun o=>eH o.x) fun y hy W' s hb' hs=>e0i (hq.orders y hy) hs (HG.o.bl (hb.call hb'));have HX:=aB (aN W (.cells (quC q (.slice ai q.items.length ci) (.slice aj q.joins.length cj) (.slice aw q.wher.args.length cw) (.slice ag q.group.length cg) (.slice ah q.having.args.length ch) (.slice ao q.orders.length co)).toArray 36));have HB1:=aB ((Bl.refl W).alloc (.cells (quC q (.slice ai q.items.length ci) (.slice aj q.joins.length cj) (.slice aw q.wher.args.length cw) (.slice ag q.group.length cg) (.slice ah q.having.args.length ch) (.slice ao q.orders.length co)).toArray 36));obtain⟨c0,c1,c2,c3,c4,c5,c6,c7,c8,c9,c10,c11,c12,c13,c14,c15,c16,c17,c18,c19,c20,c21,c22,c23⟩:=d2n HX.o;clear hq hr hp hG HG;go_enter Tryz.func30,Tryz.ntmps30;go_wp2_with fail;refine(H1.o _ HB1.o).mono ?_;rintro e w9 ⟨rfl,hb⟩
 replace HB1:=aB (HB1.o.call hb)
 replace HX:=aB ((hb.block _ (aC.1 HX.o).1).trans HX.o)
 clear hb c0 c1 c2 c3 c4 c5 c6 c7 c8 c9 c10 c11 c12 c13 c14 c15 c16 c17 c18 c19 c20 c21 c22 c23;obtain⟨c0,c1,c2,c3,c4,c5,c6,c7,c8,c9,c10,c11,c12,c13,c14,c15,c16,c17,c18,c19,c20,c21,c22,c23⟩:=d2n HX.o;generalize hs:(d4l q.items)=bb;cases bb
 ·clear hs;go_wp2;go_ret;exact⟨rfl,HB1.o⟩
 have F1:=aB hs;clear hs;go_wp2_with fail;refine(H2.o _ HB1.o).mono ?_;rintro e w9 ⟨rfl,hb⟩
 replace HB1:=aB (HB1.o.call hb)
 replace HX:=aB ((hb.block _ (aC.1 HX.o).1).trans HX.o)
 clear hb c0 c1 c2 c3 c4 c5 c6 c7 c8 c9 c10 c11 c12 c13 c14 c15 c16 c17 c18 c19 c20 c21 c22 c23;obtain⟨c0,c1,c2,c3,c4,c5,c6,c7,c8,c9,c10,c11,c12,c13,c14,c15,c16,c17,c18,c19,c20,c21,c22,c23⟩:=d2n HX.o;generalize hs:(d4c q.frm)=bb;cases bb
 ·clear hs;go_wp2;go_ret;exact⟨rfl,HB1.o⟩
 have F2:=aB hs;clear hs;go_wp2_with fail;refine(H3.o _ HB1.o).mono ?_;rintro e w9 ⟨rfl,hb⟩
 replace HB1:=aB (HB1.o.call hb)
 replace HX:=aB ((hb.block _ (aC.1 HX.o).1).trans HX.o)
 clear hb c0 c1 c2 c3 c4 c5 c6 c7 c8 c9 c10 c11 c12 c13 c14 c15 c16 c17 c18 c19 c20 c21 c22 c23;obtain⟨c0,c1,c2,c3,c4,c5,c6,c7,c8,c9,c10,c11,c12,c13,c14,c15,c16,c17,c18,c19,c20,c21,c22,c23⟩:=d2n HX.o;cases hn:d3i q.wher;rotate_left
 ·have F3:Hid ((d3i q.wher||eH q.wher)=true):=by show _=_;rw[hn];rfl
  clear hn;go_wp2_with fail;refine(H5.o _ HB1.o).mono ?_;rintro e w9 ⟨rfl,hb⟩
  replace HB1:=aB (HB1.o.call hb)
  replace HX:=aB ((hb.block _ (aC.1 HX.o).1).trans HX.o)
  clear hb c0 c1 c2 c3 c4 c5 c6 c7 c8 c9 c10 c11 c12 c13 c14 c15 c16 c17 c18 c19 c20 c21 c22 c23;obtain⟨c0,c1,c2,c3,c4,c5,c6,c7,c8,c9,c10,c11,c12,c13,c14,c15,c16,c17,c18,c19,c20,c21,c22,c23⟩:=d2n HX.o;cases hn:d3i q.having;rotate_left
  ·have F4:Hid ((d3i q.having||eH q.having&&decide (0<q.group.length))=true):=by show _=_;rw[hn];rfl
   clear hn;by_cases hl: -1<=q.limit
   case neg=>
    have hl':¬(-1<=q.limit):=hl;go_wp2;go_ret;exact⟨rfl,HB1.o⟩
   go_wp2_with fail;refine(HJ.o _ HB1.o).mono ?_;rintro e w9 ⟨rfl,hb⟩
   replace HB1:=aB (HB1.o.call hb)
   replace HX:=aB ((hb.block _ (aC.1 HX.o).1).trans HX.o)
   clear hb c0 c1 c2 c3 c4 c5 c6 c7 c8 c9 c10 c11 c12 c13 c14 c15 c16 c17 c18 c19 c20 c21 c22 c23;obtain⟨c0,c1,c2,c3,c4,c5,c6,c7,c8,c9,c10,c11,c12,c13,c14,c15,c16,c17,c18,c19,c20,c21,c22,c23⟩:=d2n HX.o;generalize hs:(decide ((q.joins.length:Int)<=4)&&q.joins.all fun j=>d4c j.s&&eH j.on)=bb;cases bb
   ·clear hs;go_wp2;go_ret;exact⟨rfl,HB1.o⟩
   have F5:=aB hs;clear hs;go_wp2_with fail;refine(HG1.o _ HB1.o).mono ?_;rintro e w9 ⟨rfl,hb⟩
   replace HB1:=aB (HB1.o.call hb)
   replace HX:=aB ((hb.block _ (aC.1 HX.o).1).trans HX.o)
   clear hb c0 c1 c2 c3 c4 c5 c6 c7 c8 c9 c10 c11 c12 c13 c14 c15 c16 c17 c18 c19 c20 c21 c22 c23;obtain⟨c0,c1,c2,c3,c4,c5,c6,c7,c8,c9,c10,c11,c12,c13,c14,c15,c16,c17,c18,c19,c20,c21,c22,c23⟩:=d2n HX.o;generalize hs:(decide ((q.group.length:Int)<=8)&&q.group.all eH)=bb;cases bb
   ·clear hs;go_wp2;go_ret;exact⟨rfl,HB1.o⟩
   have F6:=aB hs;clear hs;go_wp2_with fail;refine(HO.o _ HB1.o).mono ?_;rintro e w9 ⟨rfl,hb⟩
   replace HB1:=aB (HB1.o.call hb)
   replace HX:=aB ((hb.block _ (aC.1 HX.o).1).trans HX.o)
   clear hb c0 c1 c2 c3 c4 c5 c6 c7 c8 c9 c10 c11 c12 c13 c14 c15 c16 c17 c18 c19 c20 c21 c22 c23;obtain⟨c0,c1,c2,c3,c4,c5,c6,c7,c8,c9,c10,c11,c12,c13,c14,c15,c16,c17,c18,c19,c20,c21,c22,c23⟩:=d2n HX.o;generalize hs:(decide ((q.orders.length:Int)<=8)&&q.orders.all fun o=>eH o.x)=bb;cases bb
   ·clear hs;go_wp2;go_ret;exact⟨rfl,HB1.o⟩
   have F7:=aB hs;clear hs;exact absurd HE.o (by rw[F1.o,F2.o,F3.o,F4.o,F5.o,F6.o,F7.o,decide_eq_true hl];decide)
  ·skip
   go_wp2_with fail;refine(H6.o _ HB1.o).mono ?_;rintro e w9 ⟨rfl,hb⟩
   replace HB1:=aB (HB1.o.call hb)
   replace HX:=aB ((hb.block _ (aC.1 HX.o).1).trans HX.o)
   clear hb c0 c1 c2 c3 c4 c5 c6 c7 c8 c9 c10 c11 c12 c13 c14 c15 c16 c17 c18 c19 c20 c21 c22 c23;obtain⟨c0,c1,c2,c3,c4,c5,c6,c7,c8,c9,c10,c11,c12,c13,c14,c15,c16,c17,c18,c19,c20,c21,c22,c23⟩:=d2n HX.o;cases hn2:eH q.having
   ·clear hn hn2;go_wp2;go_ret;exact⟨rfl,HB1.o⟩
   by_cases hg:0<q.group.length
   case neg=>
    have hg':¬(0:Int)<(q.group.length:Int):=(by omega);clear hn hn2 hg;go_wp2;go_ret;exact⟨rfl,HB1.o⟩
   have hg':(0:Int)<(q.group.length:Int):=(by omega);have F4:Hid ((d3i q.having||eH q.having&&decide (0<q.group.length))=true):=(by show _=_;rw[hn,hn2,decide_eq_true hg];rfl);clear hn hn2 hg;by_cases hl: -1<=q.limit
   case neg=>
    have hl':¬(-1<=q.limit):=hl;go_wp2;go_ret;exact⟨rfl,HB1.o⟩
   go_wp2_with fail;refine(HJ.o _ HB1.o).mono ?_;rintro e w9 ⟨rfl,hb⟩
   replace HB1:=aB (HB1.o.call hb)
   replace HX:=aB ((hb.block _ (aC.1 HX.o).1).trans HX.o)
   clear hb c0 c1 c2 c3 c4 c5 c6 c7 c8 c9 c10 c11 c12 c13 c14 c15 c16 c17 c18 c19 c20 c21 c22 c23;obtain⟨c0,c1,c2,c3,c4,c5,c6,c7,c8,c9,c10,c11,c12,c13,c14,c15,c16,c17,c18,c19,c20,c21,c22,c23⟩:=d2n HX.o;generalize hs:(decide ((q.joins.length:Int)<=4)&&q.joins.all fun j=>d4c j.s&&eH j.on)=bb;cases bb
   ·clear hs;go_wp2;go_ret;exact⟨rfl,HB1.o⟩
   have F5:=aB hs;clear hs;go_wp2_with fail;refine(HG1.o _ HB1.o).mono ?_;rintro e w9 ⟨rfl,hb⟩
   replace HB1:=aB (HB1.o.call hb)
   replace HX:=aB ((hb.block _ (aC.1 HX.o).1).trans HX.o)
   clear hb c0 c1 c2 c3 c4 c5 c6 c7 c8 c9 c10 c11 c12 c13 c14 c15 c16 c17 c18 c19 c20 c21 c22 c23;obtain⟨c0,c1,c2,c3,c4,c5,c6,c7,c8,c9,c10,c11,c12,c13,c14,c15,c16,c17,c18,c19,c20,c21,c22,c23⟩:=d2n HX.o;generalize hs:(decide ((q.group.length:Int)<=8)&&q.group.all eH)=bb;cases bb
   ·clear hs;go_wp2;go_ret;exact⟨rfl,HB1.o⟩
   have F6:=aB hs;clear hs;go_wp2_with fail;refine(HO.o _ HB1.o).mono ?_;rintro e w9 ⟨rfl,hb⟩
   replace HB1:=aB (HB1.o.call hb)
   replace HX:=aB ((hb.block _ (aC.1 HX.o).1).trans HX.o)
   clear hb c0 c1 c2 c3 c4 c5 c6 c7 c8 c9 c10 c11 c12 c13 c14 c15 c16 c17 c18 c19 c20 c21 c22 c23;obtain⟨c0,c1,c2,c3,c4,c5,c6,c7,c8,c9,c10,c11,c12,c13,c14,c15,c16,c17,c18,c19,c20,c21,c22,c23⟩:=d2n HX.o;generalize hs:(decide ((q.orders.length:Int)<=8)&&q.orders.all fun o=>eH o.x)=bb;cases bb
   ·clear hs;go_wp2;go_ret;exact⟨rfl,HB1.o⟩
   have F7:=aB hs;clear hs;exact absurd HE.o (by rw[F1.o,F2.o,F3.o,F4.o,F5.o,F6.o,F7.o,decide_eq_true hl];decide)
 ·skip
  go_wp2_with fail;refine(H4.o _ HB1.o).mono ?_;rintro e w9 ⟨rfl,hb⟩
  replace HB1:=aB (HB1.o.call hb)
  replace HX:=aB ((hb.block _ (aC.1 HX.o).1).trans HX.o)
  clear hb c0 c1 c2 c3 c4 c5 c6 c7 c8 c9 c10 c11 c12 c13 c14 c15 c16 c17 c18 c19 c20 c21 c22 c23;obtain⟨c0,c1,c2,c3,c4,c5,c6,c7,c8,c9,c10,c11,c12,c13,c14,c15,c16,c17,c18,c19,c20,c21,c22,c23⟩:=d2n HX.o;cases hn2:eH q.wher
  ·clear hn hn2;go_wp2;go_ret;exact⟨rfl,HB1.o⟩
  have F3:Hid ((d3i q.wher||eH q.wher)=true):=(by show _=_;rw[hn,hn2];rfl);clear hn hn2;go_wp2_with fail;refine(H5.o _ HB1.o).mono ?_;rintro e w9 ⟨rfl,hb⟩
  replace HB1:=aB (HB1.o.call hb)
  replace HX:=aB ((hb.block _ (aC.1 HX.o).1).trans HX.o)
  clear hb c0 c1 c2 c3 c4 c5 c6 c7 c8 c9 c10 c11 c12 c13 c14 c15 c16 c17 c18 c19 c20 c21 c22 c23;obtain⟨c0,c1,c2,c3,c4,c5,c6,c7,c8,c9,c10,c11,c12,c13,c14,c15,c16,c17,c18,c19,c20,c21,c22,c23⟩:=d2n HX.o;cases hn:d3i q.having;rotate_left
  ·have F4:Hid ((d3i q.having||eH q.having&&decide (0<q.group.length))=true):=by show _=_;rw[hn];rfl
   clear hn;by_cases hl: -1<=q.limit
   case neg=>
    have hl':¬(-1<=q.limit):=hl;go_wp2;go_ret;exact⟨rfl,HB1.o⟩
   go_wp2_with fail;refine(HJ.o _ HB1.o).mono ?_;rintro e w9 ⟨rfl,hb⟩
   replace HB1:=aB (HB1.o.call hb)
   replace HX:=aB ((hb.block _ (aC.1 HX.o).1).trans HX.o)
   clear hb c0 c1 c2 c3 c4 c5 c6 c7 c8 c9 c10 c11 c12 c13 c14 c15 c16 c17 c18 c19 c20 c21 c22 c23;obtain⟨c0,c1,c2,c3,c4,c5,c6,c7,c8,c9,c10,c11,c12,c13,c14,c15,c16,c17,c18,c19,c20,c21,c22,c23⟩:=d2n HX.o;generalize hs:(decide ((q.joins.length:Int)<=4)&&q.joins.all fun j=>d4c j.s&&eH j.on)=bb;cases bb
   ·clear hs;go_wp2;go_ret;exact⟨rfl,HB1.o⟩
   have F5:=aB hs;clear hs;go_wp2_with fail;refine(HG1.o _ HB1.o).mono ?_;rintro e w9 ⟨rfl,hb⟩
   replace HB1:=aB (HB1.o.call hb)
   replace HX:=aB ((hb.block _ (aC.1 HX.o).1).trans HX.o)
   clear hb c0 c1 c2 c3 c4 c5 c6 c7 c8 c9 c10 c11 c12 c13 c14 c15 c16 c17 c18 c19 c20 c21 c22 c23;obtain⟨c0,c1,c2,c3,c4,c5,c6,c7,c8,c9,c10,c11,c12,c13,c14,c15,c16,c17,c18,c19,c20,c21,c22,c23⟩:=d2n HX.o;generalize hs:(decide ((q.group.length:Int)<=8)&&q.group.all eH)=bb;cases bb
   ·clear hs;go_wp2;go_ret;exact⟨rfl,HB1.o⟩
   have F6:=aB hs;clear hs;go_wp2_with fail;refine(HO.o _ HB1.o).mono ?_;rintro e w9 ⟨rfl,hb⟩
   replace HB1:=aB (HB1.o.call hb)
   replace HX:=aB ((hb.block _ (aC.1 HX.o).1).trans HX.o)
   clear hb c0 c1 c2 c3 c4 c5 c6 c7 c8 c9 c10 c11 c12 c13 c14 c15 c16 c17 c18 c19 c20 c21 c22 c23;obtain⟨c0,c1,c2,c3,c4,c5,c6,c7,c8,c9,c10,c11,c12,c13,c14,c15,c16,c17,c18,c19,c20,c21,c22,c23⟩:=d2n HX.o;generalize hs:(decide ((q.orders.length:Int)<=8)&&q.orders.all fun o=>eH o.x)=bb;cases bb
   ·clear hs;go_wp2;go_ret;exact⟨rfl,HB1.o⟩
   have F7:=aB hs;clear hs;exact absurd HE.o (by rw[F1.o,F2.o,F3.o,F4.o,F5.o,F6.o,F7.o,decide_eq_true hl];decide)
  ·skip
   go_wp2_with fail;refine(H6.o _ HB1.o).mono ?_;rintro e w9 ⟨rfl,hb⟩
   replace HB1:=aB (HB1.o.call hb)
   replace HX:=aB ((hb.block _ (aC.1 HX.o).1).trans HX.o)
   clear hb c0 c1 c2 c3 c4 c5 c6 c7 c8 c9 c10 c11 c12 c13 c14 c15 c16 c17 c18 c19 c20 c21 c22 c23;obtain⟨c0,c1,c2,c3,c4,c5,c6,c7,c8,c9,c10,c11,c12,c13,c14,c15,c16,c17,c18,c19,c20,c21,c22,c23⟩:=d2n HX.o;cases hn2:eH q.having
   ·clear hn hn2;go_wp2;go_ret;exact⟨rfl,HB1.o⟩
   by_cases hg:0<q.group.length
   case neg=>
    have hg':¬(0:Int)<(q.group.length:Int):=(by omega);clear hn hn2 hg;go_wp2;go_ret;exact⟨rfl,HB1.o⟩
   have hg':(0:Int)<(q.group.length:Int):=(by omega);have F4:Hid ((d3i q.having||eH q.having&&decide (0<q.group.length))=true):=(by show _=_;rw[hn,hn2,decide_eq_true hg];rfl);clear hn hn2 hg;by_cases hl: -1<=q.limit
   case neg=>
    have hl':¬(-1<=q.limit):=hl;go_wp2;go_ret;exact⟨rfl,HB1.o⟩
   go_wp2_with fail;refine(HJ.o _ HB1.o).mono ?_;rintro e w9 ⟨rfl,hb⟩
   replace HB1:=aB (HB1.o.call hb)
   replace HX:=aB ((hb.block _ (aC.1 HX.o).1).trans HX.o)
   clear hb c0 c1 c2 c3 c4 c5 c6 c7 c8 c9 c10 c11 c12 c13 c14 c15 c16 c17 c18 c19 c20 c21 c22 c23;obtain⟨c0,c1,c2,c3,c4,c5,c6,c7,c8,c9,c10,c11,c12,c13,c14,c15,c16,c17,c18,c19,c20,c21,c22,c23⟩:=d2n HX.o;generalize hs:(decide ((q.joins.length:Int)<=4)&&q.joins.all fun j=>d4c j.s&&eH j.on)=bb;cases bb
   ·clear hs;go_wp2;go_ret;exact⟨rfl,HB1.o⟩
   have F5:=aB hs;clear hs;go_wp2_with fail;refine(HG1.o _ HB1.o).mono ?_;rintro e w9 ⟨rfl,hb⟩
   replace HB1:=aB (HB1.o.call hb)
   replace HX:=aB ((hb.block _ (aC.1 HX.o).1).trans HX.o)
   clear hb c0 c1 c2 c3 c4 c5 c6 c7 c8 c9 c10 c11 c12 c13 c14 c15 c16 c17 c18 c19 c20 c21 c22 c23;obtain⟨c0,c1,c2,c3,c4,c5,c6,c7,c8,c9,c10,c11,c12,c13,c14,c15,c16,c17,c18,c19,c20,c21,c22,c23⟩:=d2n HX.o;generalize hs:(decide ((q.group.length:Int)<=8)&&q.group.all eH)=bb;cases bb
   ·clear hs;go_wp2;go_ret;exact⟨rfl,HB1.o⟩
   have F6:=aB hs;clear hs;go_wp2_with fail;refine(HO.o _ HB1.o).mono ?_;rintro e w9 ⟨rfl,hb⟩
   replace HB1:=aB (HB1.o.call hb)
   replace HX:=aB ((hb.block _ (aC.1 HX.o).1).trans HX.o)
   clear hb c0 c1 c2 c3 c4 c5 c6 c7 c8 c9 c10 c11 c12 c13 c14 c15 c16 c17 c18 c19 c20 c21 c22 c23;obtain⟨c0,c1,c2,c3,c4,c5,c6,c7,c8,c9,c10,c11,c12,c13,c14,c15,c16,c17,c18,c19,c20,c21,c22,c23⟩:=d2n HX.o;generalize hs:(decide ((q.orders.length:Int)<=8)&&q.orders.all fun o=>eH o.x)=bb;cases bb
   ·clear hs;go_wp2;go_ret;exact⟨rfl,HB1.o⟩
   have F7:=aB hs;clear hs;exact absurd HE.o (by rw[F1.o,F2.o,F3.o,F4.o,F5.o,F6.o,F7.o,decide_eq_true hl];decide)
theorem qText_no{q:Qu}(hq:e1a q)(hr:d3e q=false)(W:World)(v:Value)(hv:d5o W q v)(hG:nD W):Calls Tryz.prog 8 #[v] W fun e w'=>e= .returned (.tuple #[S [],.int .i64 2])/\Bl W w':=by
 obtain⟨si,sj,sw,sg,sh,so,rfl,hp⟩:=hv;obtain⟨ai,ci,aj,cj,aw,cw,ag,cg,ah,ch,ao,co,rfl,rfl,rfl,rfl,rfl,rfl⟩:=hp.shapes;have HCK:Hid (∀w,Bl W w->Calls Tryz.prog 30 #[QV q (.slice ai q.items.length ci) (.slice aj q.joins.length cj) (.slice aw q.wher.args.length cw) (.slice ag q.group.length cg) (.slice ah q.having.args.length ch) (.slice ao q.orders.length co)] w fun e w'=>e= .returned (.int .i64 2)/\Bl w w'):=fun w hb=>qCheck_no hq hr w _ ⟨_,_,_,_,_,_,rfl,hp.bl hb⟩ (hG.bl hb);have HX0:=aB (aN W (.cells (quC q (.slice ai q.items.length ci) (.slice aj q.joins.length cj) (.slice aw q.wher.args.length cw) (.slice ag q.group.length cg) (.slice ah q.having.args.length ch) (.slice ao q.orders.length co)).toArray 36));have HB0:=aB ((Bl.refl W).alloc (.cells (quC q (.slice ai q.items.length ci) (.slice aj q.joins.length cj) (.slice aw q.wher.args.length cw) (.slice ag q.group.length cg) (.slice ah q.having.args.length ch) (.slice ao q.orders.length co)).toArray 36));clear hq hr hp hG;go_enter Tryz.func8,Tryz.ntmps8;go_wp2_with (refine wpList_load_row rfl 36 (.tmp 1) rfl W.heap.size rfl 36 _ (0,0) _ HX0.o Tryz.underlying36 rfl tC ?_)
 go_wp2_with fail;refine(HCK.o _ HB0.o).mono ?_;rintro e w1 ⟨rfl,hb1⟩;go_wp2;go_ret2;exact⟨rfl,HB0.o.call hb1⟩
end
end Go.Proofs.YtfkekkgfmhcanaaGreatDoor
