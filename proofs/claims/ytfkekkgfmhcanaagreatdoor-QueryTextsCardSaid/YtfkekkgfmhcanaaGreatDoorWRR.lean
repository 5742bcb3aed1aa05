/- Texts beside the shared ones. -/
import Derived.Test.YtfkekkgfmhcanaaGreatDoorTS
import Derived.Test.YtfkekkgfmhcanaaGreatDoorTA
import Derived.Test.YtfkekkgfmhcanaaGreatDoorTB
import Derived.Test.YtfkekkgfmhcanaaGreatDoorTC
import Derived.Test.YtfkekkgfmhcanaaGreatDoorTD
import Derived.Test.YtfkekkgfmhcanaaGreatDoorTE
import Derived.Test.YtfkekkgfmhcanaaGreatDoorTF
import Derived.Test.YtfkekkgfmhcanaaGreatDoorTG
import Derived.Test.YtfkekkgfmhcanaaGreatDoorTH
import Derived.Test.YtfkekkgfmhcanaaGreatDoorTI
import Derived.Test.YtfkekkgfmhcanaaGreatDoorTJ
import Derived.Test.YtfkekkgfmhcanaaGreatDoorWRP
import Derived.Test.YtfkekkgfmhcanaaGreatDoorWRG
import Derived.Test.YtfkekkgfmhcanaaGreatDoorWZN
import Derived.Test.YtfkekkgfmhcanaaGreatDoorWOQ
import Derived.Deep.CutRange
import Derived.Deep.CutBlock
namespace Go.Proofs.YtfkekkgfmhcanaaGreatDoor
open Go.RowKit
open _root_.Array renaming getElem?_eq_some_iff->aC
open _root_.Go.Lib renaming cell_of_heap->aG,hid->aB
open _root_.List renaming drop_length->dO,getElem_mem->dS
open _root_.Nat renaming zero_le->dL
set_option maxRecDepth 100000
set_option maxHeartbeats 16000000
section
abbrev rJo(j:Jo):Bool:=d4c j.s&&eH j.on
abbrev rOd(o:Od):Bool:=eH o.x
theorem right_ref(q:Qu):d3e q=(d4l q.items&&(d4c q.frm&&(decide ((q.joins.length:Int)<=4)&&((d3i q.wher||eH q.wher)&&(decide ((q.group.length:Int)<=8)&&((d3i q.having||eH q.having)&&((decide (0<q.group.length)||d3i q.having)&&(decide ((q.orders.length:Int)<=8)&&(decide (-1<=q.limit)&&(q.joins.all rJo&&(q.group.all eH&&q.orders.all rOd))))))))))):=by
 rw[right_int];have e:(d3i q.having||eH q.having&&decide (0<q.group.length))=((d3i q.having||eH q.having)&&(decide (0<q.group.length)||d3i q.having)):=by
  generalize d3i q.having=c;generalize eH q.having=d;generalize decide (0<q.group.length)=f;cases c<;>cases d<;>cases f<;>rfl
 rw[e];show(_&&_&&_&&_&&_&&(_&&q.joins.all rJo)&&(_&&q.group.all eH)&&(_&&q.orders.all rOd))=_
 ac_rfl
structure KindQ(q:Qu):Prop where
 items:∀i∈q.items,c4f i.x
 joins:∀j∈q.joins,c4f j.on
 wher:c4f q.wher
 group:∀x∈q.group,c4f x
 having:c4f q.having
 orders:∀o∈q.orders,c4f o.x
theorem GoodQ.kinds{q:Qu}(h:GoodQ q):KindQ q:=⟨fun i m=>(h.items i m).2,fun i m=>(h.joins i m).2,h.wher.2,fun i m=>(h.group i m).2,h.having.2,fun i m=>(h.orders i m).2⟩
theorem yRight_any{q:Qu}(hq:e1a q)(hk:KindQ q)(W:World)(v:Value)(hv:d5o W q v):Calls Tryz.prog 29 #[v] W fun e w'=>e= .returned (.bool (d3e q))/\Bl W w':=by
 obtain⟨si,sj,sw,sg,sh,so,rfl,hp⟩:=hv;obtain⟨ai,ci,aj,cj,aw,cw,ag,cg,ah,ch,ao,co,rfl,rfl,rfl,rfl,rfl,rfl⟩:=hp.shapes;have H1:Hid (∀w,Bl W w->Calls Tryz.prog 27 #[.slice ai q.items.length ci] w fun e w'=>e= .returned (.bool (d4l q.items))/\Bl w w'):=fun w hb=>yItems_any hq.li (fun i m=>⟨hq.items i m,hk.items i m⟩) (hp.items.bl hb);have H2:Hid (∀w,Bl W w->Calls Tryz.prog 78 #[.agg #[S q.frm.t,S q.frm.al]] w fun e w'=>e= .returned (.bool (d4c q.frm))/\Bl w w'):=fun w hb=>ysource_any hq.frm w;have H3:Hid (∀w,Bl W w->Calls Tryz.prog 79 #[EV q.wher.k q.wher.v q.wher.t q.wher.n q.wher.o (.slice aw q.wher.args.length cw)] w fun e w'=>e= .returned (.bool (d3i q.wher||eH q.wher))/\Bl w w'):=fun w hb=>ymay_any hq.wher hk.wher w _ ⟨_,rfl,hp.wher.reads.bl hb⟩;have H4:Hid (∀w,Bl W w->Calls Tryz.prog 79 #[EV q.having.k q.having.v q.having.t q.having.n q.having.o (.slice ah q.having.args.length ch)] w fun e w'=>e= .returned (.bool (d3i q.having||eH q.having))/\Bl w w'):=fun w hb=>ymay_any hq.having hk.having w _ ⟨_,rfl,hp.having.reads.bl hb⟩;have H5:Hid (∀w,Bl W w->Calls Tryz.prog 80 #[EV q.having.k q.having.v q.having.t q.having.n q.having.o (.slice ah q.having.args.length ch)] w fun e w'=>e= .returned (.bool (d3i q.having))/\Bl w w'):=fun w hb=>ynone_any hq.having.parts w _ ⟨_,rfl,hp.having.reads.bl hb⟩;have HX:=aB (aN W (.cells (quC q (.slice ai q.items.length ci) (.slice aj q.joins.length cj) (.slice aw q.wher.args.length cw) (.slice ag q.group.length cg) (.slice ah q.having.args.length ch) (.slice ao q.orders.length co)).toArray 36));have HB1:=aB ((Bl.refl W).alloc (.cells (quC q (.slice ai q.items.length ci) (.slice aj q.joins.length cj) (.slice aw q.wher.args.length cw) (.slice ag q.group.length cg) (.slice ah q.having.args.length ch) (.slice ao q.orders.length co)).toArray 36));have HJ:=aB (d6j hp.joins);have HG:=aB (d6j (d8w hp.group));have HO:=aB (d6j hp.orders);have HQ:=aB hq;have HK:=aB hk;have hlj:=hq.lj;have hlg:=hq.lg;have hlo:=hq.lo;obtain⟨R,HE⟩:∃R,Hid (R=_):=⟨_,right_ref q⟩
 rw[show d3e q=R from(right_ref q).trans HE.o.symm];obtain⟨c0,c1,c2,c3,c4,c5,c6,c7,c8,c9,c10,c11,c12,c13,c14,c15,c16,c17,c18,c19,c20,c21,c22,c23⟩:=d2n HX.o;clear hp hq hk;obtain⟨T,HT⟩:∃T,Hid (T=(q.joins.all rJo&&(q.group.all eH&&q.orders.all rOd))):=⟨_,rfl⟩
 rw[<-HT.o] at HE;go_enter Tryz.func29,Tryz.ntmps29
 go_upto_region 1 with fail
 go_cut [62] from 6 to 62 (fun t wc=>∃b:Bool,t= .bool b/\Hid (Bl W wc)/\Hid (wc.heap[W.heap.size]?=some (.cells (quC q (.slice ai q.items.length ci) (.slice aj q.joins.length cj) (.slice aw q.wher.args.length cw) (.slice ag q.group.length cg) (.slice ah q.having.args.length ch) (.slice ao q.orders.length co)).toArray 36 (0,0)))/\Hid (R=if b=true then false else T))
 case first=>
  clear HT;go_wp2_with fail;refine(H1.o _ HB1.o).mono ?_;rintro e w9 ⟨rfl,hb⟩
  replace HB1:=aB (HB1.o.call hb)
  replace HX:=aB ((hb.block _ (aC.1 HX.o).1).trans HX.o)
  clear hb c0 c1 c2 c3 c4 c5 c6 c7 c8 c9 c10 c11 c12 c13 c14 c15 c16 c17 c18 c19 c20 c21 c22 c23;obtain⟨c0,c1,c2,c3,c4,c5,c6,c7,c8,c9,c10,c11,c12,c13,c14,c15,c16,c17,c18,c19,c20,c21,c22,c23⟩:=d2n HX.o;generalize (d4l q.items)=bb at *;cases bb
  ·skip
   go_wp2
   go_meet
   case rel=>exact⟨true,by first |rfl|(simp;done)|(simp;omega),HB1.o,HX.o,HE.o⟩
  replace HE:=aB (HE.o.trans rfl)
  go_wp2_with fail;refine(H2.o _ HB1.o).mono ?_;rintro e w9 ⟨rfl,hb⟩
  replace HB1:=aB (HB1.o.call hb)
  replace HX:=aB ((hb.block _ (aC.1 HX.o).1).trans HX.o)
  clear hb c0 c1 c2 c3 c4 c5 c6 c7 c8 c9 c10 c11 c12 c13 c14 c15 c16 c17 c18 c19 c20 c21 c22 c23;obtain⟨c0,c1,c2,c3,c4,c5,c6,c7,c8,c9,c10,c11,c12,c13,c14,c15,c16,c17,c18,c19,c20,c21,c22,c23⟩:=d2n HX.o;generalize (d4c q.frm)=bb at *;cases bb
  ·skip
   go_wp2
   go_meet
   case rel=>exact⟨true,by first |rfl|(simp;done)|(simp;omega),HB1.o,HX.o,HE.o⟩
  replace HE:=aB (HE.o.trans rfl)
  by_cases hj4:(q.joins.length:Int)<=4;rotate_left
  ·rw[decide_eq_false hj4] at HE;have hj4':(4:Int)<(q.joins.length:Int):=(by omega);go_wp2
   go_meet
   case rel=>exact⟨true,by first |rfl|(simp;done)|(simp;omega),HB1.o,HX.o,HE.o⟩
  have hj4':¬(4:Int)<(q.joins.length:Int):=(by omega);rw[decide_eq_true hj4] at HE
  replace HE:=aB (HE.o.trans rfl)
  go_wp2_with fail;refine(H3.o _ HB1.o).mono ?_;rintro e w9 ⟨rfl,hb⟩
  replace HB1:=aB (HB1.o.call hb)
  replace HX:=aB ((hb.block _ (aC.1 HX.o).1).trans HX.o)
  clear hb c0 c1 c2 c3 c4 c5 c6 c7 c8 c9 c10 c11 c12 c13 c14 c15 c16 c17 c18 c19 c20 c21 c22 c23;obtain⟨c0,c1,c2,c3,c4,c5,c6,c7,c8,c9,c10,c11,c12,c13,c14,c15,c16,c17,c18,c19,c20,c21,c22,c23⟩:=d2n HX.o;generalize (d3i q.wher||eH q.wher)=bb at *;cases bb
  ·skip
   go_wp2
   go_meet
   case rel=>exact⟨true,by first |rfl|(simp;done)|(simp;omega),HB1.o,HX.o,HE.o⟩
  replace HE:=aB (HE.o.trans rfl)
  by_cases hg8:(q.group.length:Int)<=8;rotate_left
  ·rw[decide_eq_false hg8] at HE;have hg8':(8:Int)<(q.group.length:Int):=(by omega);go_wp2
   go_meet
   case rel=>exact⟨true,by first |rfl|(simp;done)|(simp;omega),HB1.o,HX.o,HE.o⟩
  have hg8':¬(8:Int)<(q.group.length:Int):=(by omega);rw[decide_eq_true hg8] at HE
  replace HE:=aB (HE.o.trans rfl)
  go_wp2_with fail;refine(H4.o _ HB1.o).mono ?_;rintro e w9 ⟨rfl,hb⟩
  replace HB1:=aB (HB1.o.call hb)
  replace HX:=aB ((hb.block _ (aC.1 HX.o).1).trans HX.o)
  clear hb c0 c1 c2 c3 c4 c5 c6 c7 c8 c9 c10 c11 c12 c13 c14 c15 c16 c17 c18 c19 c20 c21 c22 c23;obtain⟨c0,c1,c2,c3,c4,c5,c6,c7,c8,c9,c10,c11,c12,c13,c14,c15,c16,c17,c18,c19,c20,c21,c22,c23⟩:=d2n HX.o;generalize (d3i q.having||eH q.having)=bb at *;cases bb
  ·skip
   go_wp2
   go_meet
   case rel=>exact⟨true,by first |rfl|(simp;done)|(simp;omega),HB1.o,HX.o,HE.o⟩
  replace HE:=aB (HE.o.trans rfl)
  by_cases hg0:0<q.group.length;rotate_left
  ·have hg0':((q.group.length:Int)==0)=true:=by rw[show(q.group.length:Int)=0 by omega];rfl
   have HG0:=aB hg0;clear hg0;rw[decide_eq_false HG0.o] at HE;go_wp2_with fail;refine(H5.o _ HB1.o).mono ?_;rintro e w9 ⟨rfl,hb⟩
   replace HB1:=aB (HB1.o.call hb)
   replace HX:=aB ((hb.block _ (aC.1 HX.o).1).trans HX.o)
   clear hb c0 c1 c2 c3 c4 c5 c6 c7 c8 c9 c10 c11 c12 c13 c14 c15 c16 c17 c18 c19 c20 c21 c22 c23;obtain⟨c0,c1,c2,c3,c4,c5,c6,c7,c8,c9,c10,c11,c12,c13,c14,c15,c16,c17,c18,c19,c20,c21,c22,c23⟩:=d2n HX.o;generalize d3i q.having=bb at *;cases bb
   ·skip
    go_wp2
    go_meet
    case rel=>exact⟨true,by first |rfl|(simp;done)|(simp;omega),HB1.o,HX.o,HE.o⟩
   replace HE:=aB (HE.o.trans rfl)
   by_cases ho8:(q.orders.length:Int)<=8;rotate_left
   ·rw[decide_eq_false ho8] at HE;have ho8':(8:Int)<(q.orders.length:Int):=(by omega);go_wp2
    go_meet
    case rel=>exact⟨true,by first |rfl|(simp;done)|(simp;omega),HB1.o,HX.o,HE.o⟩
   have ho8':¬(8:Int)<(q.orders.length:Int):=(by omega);rw[decide_eq_true ho8] at HE
   replace HE:=aB (HE.o.trans rfl)
   by_cases hli: -1<=q.limit;rotate_left
   ·rw[decide_eq_false hli] at HE;have hli':q.limit< -1:=(by omega);go_wp2
    go_meet
    case rel=>exact⟨true,by first |rfl|(simp;done)|(simp;omega),HB1.o,HX.o,HE.o⟩
   have hli':¬q.limit< -1:=(by omega);rw[decide_eq_true hli] at HE
   replace HE:=aB (HE.o.trans rfl)
   go_wp2
   go_meet
   case rel=>exact⟨false,by first |rfl|(simp;done)|(simp;omega),HB1.o,HX.o,HE.o⟩
  have hg0':((q.group.length:Int)==0)=false:=(by rw[beq_eq_false_iff_ne];omega);rw[decide_eq_true hg0] at HE
  replace HE:=aB (HE.o.trans rfl)
  by_cases ho8:(q.orders.length:Int)<=8;rotate_left
  ·rw[decide_eq_false ho8] at HE;have ho8':(8:Int)<(q.orders.length:Int):=(by omega);go_wp2
   go_meet
   case rel=>exact⟨true,by first |rfl|(simp;done)|(simp;omega),HB1.o,HX.o,HE.o⟩
  have ho8':¬(8:Int)<(q.orders.length:Int):=(by omega);rw[decide_eq_true ho8] at HE
  replace HE:=aB (HE.o.trans rfl)
  by_cases hli: -1<=q.limit;rotate_left
  ·rw[decide_eq_false hli] at HE;have hli':q.limit< -1:=(by omega);go_wp2
   go_meet
   case rel=>exact⟨true,by first |rfl|(simp;done)|(simp;omega),HB1.o,HX.o,HE.o⟩
  have hli':¬q.limit< -1:=(by omega);rw[decide_eq_true hli] at HE
  replace HE:=aB (HE.o.trans rfl)
  go_wp2
  go_meet
  case rel=>exact⟨false,by first |rfl|(simp;done)|(simp;omega),HB1.o,HX.o,HE.o⟩
 case rest=>
  clear HE H1 H2 H3 H4 H5 HB1 HX c0 c1 c2 c3 c4 c5 c6 c7 c8 c9 c10 c11 c12 c13 c14 c15 c16 c17 c18 c19 c20 c21 c22 c23;obtain⟨b,rfl,HB1,HX,HEb⟩:=hcut;cases b;rotate_left
  ·have HN:=aB (show R=false from HEb.o);go_wp2;go_ret;exact⟨by rw[HN.o]<;>rfl,HB1.o⟩
  have HE:=aB (show R=(q.joins.all rJo&&(q.group.all eH&&q.orders.all rOd)) from HEb.o.trans HT.o);clear HEb HT;go_wp2_with fail;go_loopw [3] (fun i wr=>∃j:Nat,j<=q.joins.length/\i= .int .i64 (j:Int)/\Hid (R=((q.joins.drop j).all rJo&&(q.group.all eH&&q.orders.all rOd)))/\Hid (Bl wc wr)) (fun i _=>q.joins.length-(intOf i).toNat)
  case atStart=>exact⟨0,dL _,rfl,HE.o,Bl.refl wc⟩
  case round=>
   clear HE;obtain⟨j,hj,rfl,HE,HA⟩:=hrel;have HXR:=aB (keep1 HX.o HA.o);have HBW:=aB (HB1.o.call HA.o);have h4a:wr.cell? ⟨W.heap.size,4,none⟩=some (.slice aj q.joins.length cj):=(aG HXR.o 4).trans rfl;by_cases hlt:j<q.joins.length
   ·as_aux_lemma=>
    obtain⟨b,off,s,ha,hbl,hcs,hr⟩:=HJ.o j hlt;subst ha;have HEj:=aB (HE.o.trans (congrArg (·&&(q.group.all eH&&q.orders.all rOd)) (all_drop hlt)));have m:=dS hlt;obtain⟨asl,cs,rfl⟩:=hr.shape;have HV:Hid (∀w,Bl W w->_):=aB (fun(w:World) (hb:Bl W w)=>x_right ((HQ.o.joins _ m).2) (HK.o.joins _ m) w _ ⟨_,rfl,hr.reads.bl hb⟩);have HS:=aB (fun(w:World)=>ysource_any (HQ.o.joins _ m).1 w)
    replace hcs:=hcs.keep (HBW.o.block b hbl)
    have hlt':(j:Int)<(q.joins.length:Int):=(by omega);clear hr m;generalize q.joins[j]=y at *;obtain⟨⟨jt,jal⟩,⟨yk,⟨y1,y2,y3⟩,yt,yn,yo,ya⟩⟩:=y;have HCS:=aB (show d2k wr b (off+j * 10) [S jt,S jal,.int .i64 yk,.int .i64 y1,.int .i64 y2,S y3,S yt,S yn,.int .i64 yo,.slice asl ya.length cs] from hcs);clear hcs;have e0:=d2k.cell0 (HCS.o) rfl;have e1:=HCS.o 1 _ rfl;have e2:=HCS.o 2 _ rfl;have e3:=HCS.o 3 _ rfl;have e4:=HCS.o 4 _ rfl;have e5:=HCS.o 5 _ rfl;have e6:=HCS.o 6 _ rfl;have e7:=HCS.o 7 _ rfl;have e8:=HCS.o 8 _ rfl;have e9:=HCS.o 9 _ rfl;go_wp2_with fail;refine(HS.o _).mono ?_;rintro e w2 ⟨rfl,hb2⟩;have HA2:=aB (HA.o.call hb2);have HXR:=aB (keep1 HXR.o hb2);have h4a:w2.cell? ⟨W.heap.size,4,none⟩=some (.slice (some ⟨b,off,none⟩) q.joins.length cj):=(aG HXR.o 4).trans rfl;have HCS:=aB (HCS.o.keep (hb2.block b (HCS.o.lt (Nat.succ_pos _))));clear e0 e1 e2 e3 e4 e5 e6 e7 e8 e9 hb2;cases hs:d4c ⟨jt,jal⟩
    ·have HN:=aB (show R=false from by rw[HEj.o];show(((d4c ⟨jt,jal⟩&&eH (.mk yk (y1,y2,y3) yt yn yo ya))&&_)&&_)=_;rw[hs];rfl);clear hs;go_wp2;go_ret;exact⟨by rw[HN.o]<;>rfl,HB1.o.call HA2.o⟩
    have HS1:=aB hs;clear hs;have e0:=d2k.cell0 (HCS.o) rfl;have e1:=HCS.o 1 _ rfl;have e2:=HCS.o 2 _ rfl;have e3:=HCS.o 3 _ rfl;have e4:=HCS.o 4 _ rfl;have e5:=HCS.o 5 _ rfl;have e6:=HCS.o 6 _ rfl;have e7:=HCS.o 7 _ rfl;have e8:=HCS.o 8 _ rfl;have e9:=HCS.o 9 _ rfl;go_wp2_with fail;refine(HV.o _ (HB1.o.call HA2.o)).mono ?_;rintro e w3 ⟨rfl,hb3⟩;have HA3:=aB (HA2.o.call hb3);clear e0 e1 e2 e3 e4 e5 e6 e7 e8 e9 h4a hb3;cases hs:eH (.mk yk (y1,y2,y3) yt yn yo ya)
    ·have HN:=aB (show R=false from by rw[HEj.o];show(((d4c ⟨jt,jal⟩&&eH (.mk yk (y1,y2,y3) yt yn yo ya))&&_)&&_)=_;rw[HS1.o,hs];rfl);clear hs;go_wp2;go_ret;exact⟨by rw[HN.o]<;>rfl,HB1.o.call HA3.o⟩
    ·have HN:=aB (show R=((q.joins.drop (j+1)).all rJo&&(q.group.all eH&&q.orders.all rOd)) from by rw[HEj.o];show(((d4c ⟨jt,jal⟩&&eH (.mk yk (y1,y2,y3) yt yn yo ya))&&_)&&_)=_;rw[HS1.o,hs];rfl);clear hs;go_wp2;go_roundw
     case rel=>exact⟨j+1,by omega,by go_num,HN.o,HA3.o⟩
     case measure=>simp[intOf];omega
   ·as_aux_lemma=>
    obtain rfl:j=q.joins.length:=(by omega);clear hlt hj
    replace HE:=aB (show R=(q.group.all eH&&q.orders.all rOd) from by rw[HE.o,dO];rfl)
    go_wp2_with fail;go_loopw [4] (fun i wr=>∃j:Nat,j<=q.group.length/\i= .int .i64 (j:Int)/\Hid (R=((q.group.drop j).all eH&&q.orders.all rOd))/\Hid (Bl wc wr)) (fun i _=>q.group.length-(intOf i).toNat)
    case atStart=>exact⟨0,dL _,rfl,HE.o,HA.o⟩
    case round=>
     clear HE;obtain⟨j,hj,rfl,HE,HA⟩:=hrel;have HXR:=aB (keep1 HX.o HA.o);have HBW:=aB (HB1.o.call HA.o);have h4a:wr.cell? ⟨W.heap.size,13,none⟩=some (.slice ag q.group.length cg):=(aG HXR.o 13).trans rfl;by_cases hlt:j<q.group.length
     ·as_aux_lemma=>
      obtain⟨b,off,s,ha,hbl,hcs,hr⟩:=HG.o j hlt;subst ha;have HEj:=aB (HE.o.trans (congrArg (·&&q.orders.all rOd) (all_drop hlt)));have m:=dS hlt;obtain⟨asl,cs,rfl⟩:=hr.shape;have HV:Hid (∀w,Bl W w->_):=aB (fun(w:World) (hb:Bl W w)=>x_right (HQ.o.group _ m) (HK.o.group _ m) w _ ⟨_,rfl,hr.reads.bl hb⟩)
      replace hcs:=hcs.keep (HBW.o.block b hbl)
      have hlt':(j:Int)<(q.group.length:Int):=(by omega);clear hr m;generalize q.group[j]=y at *;obtain⟨yk,⟨y1,y2,y3⟩,yt,yn,yo,ya⟩:=y;have HCS:=aB (show d2k wr b (off+j * 8) [.int .i64 yk,.int .i64 y1,.int .i64 y2,S y3,S yt,S yn,.int .i64 yo,.slice asl ya.length cs] from hcs);clear hcs;have e0:=d2k.cell0 (HCS.o) rfl;have e1:=HCS.o 1 _ rfl;have e2:=HCS.o 2 _ rfl;have e3:=HCS.o 3 _ rfl;have e4:=HCS.o 4 _ rfl;have e5:=HCS.o 5 _ rfl;have e6:=HCS.o 6 _ rfl;have e7:=HCS.o 7 _ rfl;go_wp2_with fail;refine(HV.o _ HBW.o).mono ?_;rintro e w3 ⟨rfl,hb3⟩;have HA3:=aB (HA.o.call hb3);clear e0 e1 e2 e3 e4 e5 e6 e7 h4a hb3;cases hs:eH (.mk yk (y1,y2,y3) yt yn yo ya)
      ·have HN:=aB (show R=false from by rw[HEj.o];show((eH (.mk yk (y1,y2,y3) yt yn yo ya)&&_)&&_)=_;rw[hs];rfl);clear hs;go_wp2;go_ret;exact⟨by rw[HN.o]<;>rfl,HB1.o.call HA3.o⟩
      ·have HN:=aB (show R=((q.group.drop (j+1)).all eH&&q.orders.all rOd) from by rw[HEj.o];show((eH (.mk yk (y1,y2,y3) yt yn yo ya)&&_)&&_)=_;rw[hs];rfl);clear hs;go_wp2;go_roundw
       case rel=>exact⟨j+1,by omega,by go_num,HN.o,HA3.o⟩
       case measure=>simp[intOf];omega
     ·as_aux_lemma=>
      obtain rfl:j=q.group.length:=(by omega);clear hlt hj
      replace HE:=aB (show R=q.orders.all rOd from by rw[HE.o,dO];rfl)
      go_wp2_with fail;go_loopw [5] (fun i wr=>∃j:Nat,j<=q.orders.length/\i= .int .i64 (j:Int)/\Hid (R=((q.orders.drop j).all rOd))/\Hid (Bl wc wr)) (fun i _=>q.orders.length-(intOf i).toNat)
      case atStart=>exact⟨0,dL _,rfl,HE.o,HA.o⟩
      case round=>
       clear HE;obtain⟨j,hj,rfl,HE,HA⟩:=hrel;have HXR:=aB (keep1 HX.o HA.o);have HBW:=aB (HB1.o.call HA.o);have h4a:wr.cell? ⟨W.heap.size,22,none⟩=some (.slice ao q.orders.length co):=(aG HXR.o 22).trans rfl;by_cases hlt:j<q.orders.length
       ·as_aux_lemma=>
        obtain⟨b,off,s,ha,hbl,hcs,hr⟩:=HO.o j hlt;subst ha;have HEj:=aB (HE.o.trans (all_drop hlt));have m:=dS hlt;obtain⟨asl,cs,rfl⟩:=hr.shape;have HV:Hid (∀w,Bl W w->_):=aB (fun(w:World) (hb:Bl W w)=>x_right (HQ.o.orders _ m) (HK.o.orders _ m) w _ ⟨_,rfl,hr.reads.bl hb⟩)
        replace hcs:=hcs.keep (HBW.o.block b hbl)
        have hlt':(j:Int)<(q.orders.length:Int):=(by omega);clear hr m;generalize q.orders[j]=y at *;obtain⟨⟨yk,⟨y1,y2,y3⟩,yt,yn,yo,ya⟩,dn⟩:=y;have HCS:=aB (show d2k wr b (off+j * 9) [.int .i64 yk,.int .i64 y1,.int .i64 y2,S y3,S yt,S yn,.int .i64 yo,.slice asl ya.length cs,.bool dn] from hcs);clear hcs;have e0:=d2k.cell0 (HCS.o) rfl;have e1:=HCS.o 1 _ rfl;have e2:=HCS.o 2 _ rfl;have e3:=HCS.o 3 _ rfl;have e4:=HCS.o 4 _ rfl;have e5:=HCS.o 5 _ rfl;have e6:=HCS.o 6 _ rfl;have e7:=HCS.o 7 _ rfl;have e8:=HCS.o 8 _ rfl;go_wp2_with fail;refine(HV.o _ HBW.o).mono ?_;rintro e w3 ⟨rfl,hb3⟩;have HA3:=aB (HA.o.call hb3);clear e0 e1 e2 e3 e4 e5 e6 e7 e8 h4a hb3;cases hs:eH (.mk yk (y1,y2,y3) yt yn yo ya)
        ·have HN:=aB (show R=false from by rw[HEj.o];show(eH (.mk yk (y1,y2,y3) yt yn yo ya)&&_)=_;rw[hs];rfl);clear hs;go_wp2;go_ret;exact⟨by rw[HN.o]<;>rfl,HB1.o.call HA3.o⟩
        ·have HN:=aB (show R=((q.orders.drop (j+1)).all rOd) from by rw[HEj.o];show(eH (.mk yk (y1,y2,y3) yt yn yo ya)&&_)=_;rw[hs];rfl);clear hs;go_wp2;go_roundw
         case rel=>exact⟨j+1,by omega,by go_num,HN.o,HA3.o⟩
         case measure=>simp[intOf];omega
       ·as_aux_lemma=>
        obtain rfl:j=q.orders.length:=(by omega);clear hlt hj;have HN:=aB (show R=true from by rw[HE.o,dO];rfl);go_wp2;go_ret;exact⟨by rw[HN.o]<;>rfl,HBW.o⟩
end
end Go.Proofs.YtfkekkgfmhcanaaGreatDoor
