/- Texts beside the shared ones. -/
import Derived.Test.YtfkekkgfmhcanaaGreatDoorTS
import Derived.Test.YtfkekkgfmhcanaaGreatDoorTA
import Derived.Test.YtfkekkgfmhcanaaGreatDoorTB
import Derived.Test.YtfkekkgfmhcanaaGreatDoorTC
import Derived.Test.YtfkekkgfmhcanaaGreatDoorTD
import Derived.Test.YtfkekkgfmhcanaaGreatDoorTE
import Derived.Test.YtfkekkgfmhcanaaGreatDoorTF
import Derived.Test.YtfkekkgfmhcanaaGreatDoorTG
import Derived.Test.YtfkekkgfmhcanaaGreatDoorTH
import Derived.Test.YtfkekkgfmhcanaaGreatDoorTI
import Derived.Test.YtfkekkgfmhcanaaGreatDoorTJ
import Derived.Test.YtfkekkgfmhcanaaGreatDoorWZA
import Derived.Test.YtfkekkgfmhcanaaGreatDoorWZI
namespace Go.Proofs.YtfkekkgfmhcanaaGreatDoor
open Go.RowKit
open _root_.Array renaming getElem?_eq_some_iff->aC
open _root_.Go.Lib renaming cell_of_heap->aG,hid->aB
open _root_.List renaming drop_length->dO,getElem_mem->dS
open _root_.Nat renaming le_refl->aH,zero_le->dL
set_option maxRecDepth 100000
set_option maxHeartbeats 8000000
section
abbrev sumI(i:It):Bool:=a0z i.x
abbrev sumO(o:Od):Bool:=a0z o.x
theorem enters_qGrouped1(args:Array Value)(w:World):(callFunc 71 args).run Tryz.prog w= .ok (.enter 71 args) w:=by simp[go_sem]
theorem enters_qGrouped2(args:Array Value)(w:World):(callFunc 73 args).run Tryz.prog w= .ok (.enter 73 args) w:=by simp[go_sem]
theorem qGrouped1_any{i:It}(hp:fC i.x<=1000000){p:Nat->Prop}{W:World}{s:Value}(hr:bG p W s i.x.args):Calls Tryz.prog 71 #[.agg (fIt.cells i s).toArray] W fun e w'=>e= .returned (.bool (a0z i.x))/\Bl W w':=by
 obtain⟨asl,cs,rfl⟩:=hr.shape;have HE:=aB (fun(B:World) (hb:Bl W B)=>c9a _ i.x (aH _) hp B _ ⟨_,rfl,hr.reads.bl hb⟩);clear hr hp;obtain⟨st,tt,⟨yk,⟨y1,y2,y3⟩,yt,yn,yo,ya⟩,al⟩:=i;show Calls Tryz.prog 71 #[.agg #[.bool st,S tt,.int .i64 yk,.int .i64 y1,.int .i64 y2,S y3,S yt,S yn,.int .i64 yo,.slice asl ya.length cs,S al]] W _;simp only[Ex.k,Ex.v,Ex.t,Ex.n,Ex.o,Ex.args] at *;generalize a0z (.mk yk (y1,y2,y3) yt yn yo ya)=r at *;have HB:=aB ((Bl.refl W).alloc (.cells #[.bool st,S tt,.int .i64 yk,.int .i64 y1,.int .i64 y2,S y3,S yt,S yn,.int .i64 yo,.slice asl ya.length cs,S al] 91));go_enter Tryz.func71,Tryz.ntmps71;go_wp2_with fail;refine(HE.o _ HB.o).mono ?_;rintro e w1 ⟨rfl,hb⟩;go_wp2;go_ret;exact⟨rfl,HB.o.call hb⟩
theorem qGrouped2_any{i:Od}(hp:fC i.x<=1000000){p:Nat->Prop}{W:World}{s:Value}(hr:bG p W s i.x.args):Calls Tryz.prog 73 #[.agg (fOd.cells i s).toArray] W fun e w'=>e= .returned (.bool (a0z i.x))/\Bl W w':=by
 obtain⟨asl,cs,rfl⟩:=hr.shape;have HE:=aB (fun(B:World) (hb:Bl W B)=>c9a _ i.x (aH _) hp B _ ⟨_,rfl,hr.reads.bl hb⟩);clear hr hp;obtain⟨⟨yk,⟨y1,y2,y3⟩,yt,yn,yo,ya⟩,dn⟩:=i;show Calls Tryz.prog 73 #[.agg #[.int .i64 yk,.int .i64 y1,.int .i64 y2,S y3,S yt,S yn,.int .i64 yo,.slice asl ya.length cs,.bool dn]] W _;simp only[Ex.k,Ex.v,Ex.t,Ex.n,Ex.o,Ex.args] at *;generalize a0z (.mk yk (y1,y2,y3) yt yn yo ya)=r at *;have HB:=aB ((Bl.refl W).alloc (.cells #[.int .i64 yk,.int .i64 y1,.int .i64 y2,S y3,S yt,S yn,.int .i64 yo,.slice asl ya.length cs,.bool dn] 80));go_enter Tryz.func73,Tryz.ntmps73;go_wp2_with fail;refine(HE.o _ HB.o).mono ?_;rintro e w1 ⟨rfl,hb⟩;go_wp2;go_ret;exact⟨rfl,HB.o.call hb⟩
theorem qGrouped_any{q:Qu}(hs:d9u 1000000 q)(W:World)(v:Value)(hv:d5o W q v):Calls Tryz.prog 25 #[v] W fun e w'=>e= .returned (.bool (groupedQ q))/\Bl W w':=by
 obtain⟨si,sj,sw,sg,sh,so,rfl,hp⟩:=hv;obtain⟨ai,ci,aj,cj,aw,cw,ag,cg,ah,ch,ao,co,rfl,rfl,rfl,rfl,rfl,rfl⟩:=hp.shapes;have H1:Hid (∀w,Bl W w->Calls Tryz.prog 69 #[EV q.having.k q.having.v q.having.t q.having.n q.having.o (.slice ah q.having.args.length ch)] w fun e w'=>e= .returned (.bool (a0z q.having))/\Bl w w'):=fun w hb=>c9a _ q.having (aH _) hs.having w _ ⟨_,rfl,hp.having.reads.bl hb⟩;have H2:Hid (∀w,Bl W w->Calls Tryz.prog 70 #[.slice ai q.items.length ci,.func (.func 71) #[] #[]] w fun e w'=>e= .returned (.bool (q.items.any sumI))/\Bl w w'):=fun w hb=>e5n #[] enters_qGrouped1 hs.li (hp.items.bl hb) fun y hy W' s _ h=>(by rw[Array.append_empty];exact qGrouped1_any (hs.items y hy) h);have H3:Hid (∀w,Bl W w->Calls Tryz.prog 72 #[.slice ao q.orders.length co,.func (.func 73) #[] #[]] w fun e w'=>e= .returned (.bool (q.orders.any sumO))/\Bl w w'):=fun w hb=>e5l #[] enters_qGrouped2 hs.lo (hp.orders.bl hb) fun y hy W' s _ h=>(by rw[Array.append_empty];exact qGrouped2_any (hs.orders y hy) h);have HX:=aB (aN W (.cells (quC q (.slice ai q.items.length ci) (.slice aj q.joins.length cj) (.slice aw q.wher.args.length cw) (.slice ag q.group.length cg) (.slice ah q.having.args.length ch) (.slice ao q.orders.length co)).toArray 36));have HB1:=aB ((Bl.refl W).alloc (.cells (quC q (.slice ai q.items.length ci) (.slice aj q.joins.length cj) (.slice aw q.wher.args.length cw) (.slice ag q.group.length cg) (.slice ah q.having.args.length ch) (.slice ao q.orders.length co)).toArray 36));obtain⟨R,HE⟩:∃R,Hid (R=(decide (0<q.group.length)||(a0z q.having||(q.items.any sumI||q.orders.any sumO)))):=⟨_,rfl⟩
 rw[show groupedQ q=R by rw[HE.o];unfold groupedQ;rw[Bool.or_assoc,Bool.or_assoc]];obtain⟨c0,c1,c2,c3,c4,c5,c6,c7,c8,c9,c10,c11,c12,c13,c14,c15,c16,c17,c18,c19,c20,c21,c22,c23⟩:=d2n HX.o;clear hp hs;go_enter Tryz.func25,Tryz.ntmps25;by_cases hg:0<q.group.length
 ·have hg':(0:Int)<(q.group.length:Int):=by omega
  have HN:=aB (show R=true by rw[HE.o,decide_eq_true hg];rfl);clear H1 H2 H3;go_wp2;go_ret;exact⟨by rw[HN.o]<;>rfl,HB1.o⟩
 have hg':¬(0:Int)<(q.group.length:Int):=(by omega);rw[decide_eq_false hg] at HE;go_wp2_with fail;refine(H1.o _ HB1.o).mono ?_;rintro e w9 ⟨rfl,hb⟩
 replace HB1:=aB (HB1.o.call hb)
 replace HX:=aB ((hb.block _ (aC.1 HX.o).1).trans HX.o)
 clear hb c0 c1 c2 c3 c4 c5 c6 c7 c8 c9 c10 c11 c12 c13 c14 c15 c16 c17 c18 c19 c20 c21 c22 c23;obtain⟨c0,c1,c2,c3,c4,c5,c6,c7,c8,c9,c10,c11,c12,c13,c14,c15,c16,c17,c18,c19,c20,c21,c22,c23⟩:=d2n HX.o;generalize a0z q.having=bb at *;cases bb;rotate_left
 ·have HN:=aB (show R=true from HE.o);go_wp2;go_ret;exact⟨by rw[HN.o]<;>rfl,HB1.o⟩
 go_wp2_with fail;refine(H2.o _ HB1.o).mono ?_;rintro e w9 ⟨rfl,hb⟩
 replace HB1:=aB (HB1.o.call hb)
 replace HX:=aB ((hb.block _ (aC.1 HX.o).1).trans HX.o)
 clear hb c0 c1 c2 c3 c4 c5 c6 c7 c8 c9 c10 c11 c12 c13 c14 c15 c16 c17 c18 c19 c20 c21 c22 c23;obtain⟨c0,c1,c2,c3,c4,c5,c6,c7,c8,c9,c10,c11,c12,c13,c14,c15,c16,c17,c18,c19,c20,c21,c22,c23⟩:=d2n HX.o;generalize q.items.any sumI=bb at *;cases bb;rotate_left
 ·have HN:=aB (show R=true from HE.o);go_wp2;go_ret;exact⟨by rw[HN.o]<;>rfl,HB1.o⟩
 go_wp2_with fail;refine(H3.o _ HB1.o).mono ?_;rintro e w9 ⟨rfl,hb⟩
 replace HB1:=aB (HB1.o.call hb)
 replace HX:=aB ((hb.block _ (aC.1 HX.o).1).trans HX.o)
 clear hb c0 c1 c2 c3 c4 c5 c6 c7 c8 c9 c10 c11 c12 c13 c14 c15 c16 c17 c18 c19 c20 c21 c22 c23;obtain⟨c0,c1,c2,c3,c4,c5,c6,c7,c8,c9,c10,c11,c12,c13,c14,c15,c16,c17,c18,c19,c20,c21,c22,c23⟩:=d2n HX.o;have HN:=aB (show R=q.orders.any sumO from HE.o);go_wp2;go_ret;exact⟨by rw[HN.o]<;>rfl,HB1.o⟩
theorem yGrouped_any{q:Qu}(hs:d9u 1000000 q)(W:World)(v:Value)(hv:d5o W q v):Calls Tryz.prog 26 #[v] W fun e w'=>e= .returned (.bool (groupedQ q))/\Bl W w':=by
 obtain⟨si,sj,sw,sg,sh,so,rfl,hp⟩:=hv;obtain⟨ai,ci,aj,cj,aw,cw,ag,cg,ah,ch,ao,co,rfl,rfl,rfl,rfl,rfl,rfl⟩:=hp.shapes;have H1:Hid (∀w,Bl W w->Calls Tryz.prog 74 #[EV q.having.k q.having.v q.having.t q.having.n q.having.o (.slice ah q.having.args.length ch)] w fun e w'=>e= .returned (.bool (a0z q.having))/\Bl w w'):=fun w hb=>b3l _ q.having (aH _) hs.having w _ ⟨_,rfl,hp.having.reads.bl hb⟩;have HX:=aB (aN W (.cells (quC q (.slice ai q.items.length ci) (.slice aj q.joins.length cj) (.slice aw q.wher.args.length cw) (.slice ag q.group.length cg) (.slice ah q.having.args.length ch) (.slice ao q.orders.length co)).toArray 36));have HB1:=aB ((Bl.refl W).alloc (.cells (quC q (.slice ai q.items.length ci) (.slice aj q.joins.length cj) (.slice aw q.wher.args.length cw) (.slice ag q.group.length cg) (.slice ah q.having.args.length ch) (.slice ao q.orders.length co)).toArray 36));have HI:=aB (d6j hp.items);have HO:=aB (d6j hp.orders);have HSS:=aB hs;have hli:=hs.li;have hlo:=hs.lo;obtain⟨R,HE⟩:∃R,Hid (R=(decide (0<q.group.length)||(a0z q.having||(q.items.any sumI||q.orders.any sumO)))):=⟨_,rfl⟩
 rw[show groupedQ q=R by rw[HE.o];unfold groupedQ;rw[Bool.or_assoc,Bool.or_assoc]];obtain⟨c0,c1,c2,c3,c4,c5,c6,c7,c8,c9,c10,c11,c12,c13,c14,c15,c16,c17,c18,c19,c20,c21,c22,c23⟩:=d2n HX.o;clear hp hs;go_enter Tryz.func26,Tryz.ntmps26;by_cases hg:0<q.group.length
 ·have hg':(0:Int)<(q.group.length:Int):=by omega
  have HN:=aB (show R=true by rw[HE.o,decide_eq_true hg];rfl);clear H1;go_wp2;go_ret;exact⟨by rw[HN.o]<;>rfl,HB1.o⟩
 have hg':¬(0:Int)<(q.group.length:Int):=(by omega);rw[decide_eq_false hg] at HE;go_wp2_with fail;refine(H1.o _ HB1.o).mono ?_;rintro e w9 ⟨rfl,hb⟩
 replace HB1:=aB (HB1.o.call hb)
 replace HX:=aB ((hb.block _ (aC.1 HX.o).1).trans HX.o)
 clear hb c0 c1 c2 c3 c4 c5 c6 c7 c8 c9 c10 c11 c12 c13 c14 c15 c16 c17 c18 c19 c20 c21 c22 c23;obtain⟨c0,c1,c2,c3,c4,c5,c6,c7,c8,c9,c10,c11,c12,c13,c14,c15,c16,c17,c18,c19,c20,c21,c22,c23⟩:=d2n HX.o;generalize a0z q.having=bb at *;cases bb;rotate_left
 ·have HN:=aB (show R=true from HE.o);go_wp2;go_ret;exact⟨by rw[HN.o]<;>rfl,HB1.o⟩
 clear c0 c1 c2 c3 c4 c5 c6 c7 c8 c9 c10 c11 c12 c13 c14 c15 c16 c17 c18 c19 c20 c21 c22 c23 hg hg' H1
 replace HE:=aB (show R=(q.items.any sumI||q.orders.any sumO) from HE.o)
 go_wp2_with fail;go_loopw [3] (fun i wr=>∃j:Nat,j<=q.items.length/\i= .int .i64 (j:Int)/\Hid (R=((q.items.drop j).any sumI||q.orders.any sumO))/\Hid (Bl w9 wr)) (fun i _=>q.items.length-(intOf i).toNat)
 case atStart=>exact⟨0,dL _,rfl,HE.o,Bl.refl w9⟩
 case round=>
  clear HE;obtain⟨j,hj,rfl,HE,HA⟩:=hrel;have HXR:=aB (keep1 HX.o HA.o);have HBW:=aB (HB1.o.call HA.o);have h4a:wr.cell? ⟨W.heap.size,1,none⟩=some (.slice ai q.items.length ci):=(aG HXR.o 1).trans rfl;by_cases hlt:j<q.items.length
  ·as_aux_lemma=>
   obtain⟨b,off,s,ha,hbl,hcs,hr⟩:=HI.o j hlt;subst ha;have HEj:=aB (HE.o.trans (congrArg (·||q.orders.any sumO) (d6z hlt)));obtain⟨asl,cs,rfl⟩:=hr.shape;have HV:=aB (b3l _ (q.items[j]).x (aH _) (HSS.o.items _ (dS hlt)) wr _ ⟨_,rfl,hr.reads.bl HBW.o⟩)
   replace hcs:=hcs.keep (HBW.o.block b hbl)
   have hlt':(j:Int)<(q.items.length:Int):=(by omega);clear hr;generalize q.items[j]=y at *;obtain⟨st,tt,⟨yk,⟨y1,y2,y3⟩,yt,yn,yo,ya⟩,al⟩:=y;have HCS:=aB (show d2k wr b (off+j * 11) [.bool st,S tt,.int .i64 yk,.int .i64 y1,.int .i64 y2,S y3,S yt,S yn,.int .i64 yo,.slice asl ya.length cs,S al] from hcs);clear hcs;have e0:=d2k.cell0 (HCS.o) rfl;have e1:=HCS.o 1 _ rfl;have e2:=HCS.o 2 _ rfl;have e3:=HCS.o 3 _ rfl;have e4:=HCS.o 4 _ rfl;have e5:=HCS.o 5 _ rfl;have e6:=HCS.o 6 _ rfl;have e7:=HCS.o 7 _ rfl;have e8:=HCS.o 8 _ rfl;have e9:=HCS.o 9 _ rfl;have e10:=HCS.o 10 _ rfl;go_wp2_with fail;refine HV.o.mono ?_;rintro e w3 ⟨rfl,hb3⟩;have HA3:=aB (HA.o.call hb3);clear e0 e1 e2 e3 e4 e5 e6 e7 e8 e9 e10 h4a hb3;cases hs:a0z (.mk yk (y1,y2,y3) yt yn yo ya)
   ·have HN:=aB (show R=((q.items.drop (j+1)).any sumI||q.orders.any sumO) from by rw[HEj.o];show((a0z _||_)||_)=_;rw[hs,Bool.false_or]);clear hs;go_wp2;go_roundw
    case rel=>exact⟨j+1,by omega,by go_num,HN.o,HA3.o⟩
    case measure=>simp[intOf];omega
   ·have HN:=aB (show R=true from by rw[HEj.o];show((a0z _||_)||_)=_;rw[hs];rfl);clear hs;go_wp2;go_ret;exact⟨by rw[HN.o]<;>rfl,HB1.o.call HA3.o⟩
  ·as_aux_lemma=>
   obtain rfl:j=q.items.length:=(by omega);clear hlt hj
   replace HE:=aB (show R=q.orders.any sumO from by rw[HE.o,dO];rfl)
   go_wp2_with fail;go_loopw [4] (fun i wr=>∃j:Nat,j<=q.orders.length/\i= .int .i64 (j:Int)/\Hid (R=((q.orders.drop j).any sumO))/\Hid (Bl w9 wr)) (fun i _=>q.orders.length-(intOf i).toNat)
   case atStart=>exact⟨0,dL _,rfl,HE.o,HA.o⟩
   case round=>
    clear HE;obtain⟨j,hj,rfl,HE,HA⟩:=hrel;have HXR:=aB (keep1 HX.o HA.o);have HBW:=aB (HB1.o.call HA.o);have h4a:wr.cell? ⟨W.heap.size,22,none⟩=some (.slice ao q.orders.length co):=(aG HXR.o 22).trans rfl;by_cases hlt:j<q.orders.length
    ·as_aux_lemma=>
     obtain⟨b,off,s,ha,hbl,hcs,hr⟩:=HO.o j hlt;subst ha;have HEj:=aB (HE.o.trans ((d6z hlt).trans (Bool.or_false _).symm));obtain⟨asl,cs,rfl⟩:=hr.shape;have HV:=aB (b3l _ (q.orders[j]).x (aH _) (HSS.o.orders _ (dS hlt)) wr _ ⟨_,rfl,hr.reads.bl HBW.o⟩)
     replace hcs:=hcs.keep (HBW.o.block b hbl)
     have hlt':(j:Int)<(q.orders.length:Int):=(by omega);clear hr;generalize q.orders[j]=y at *;obtain⟨⟨yk,⟨y1,y2,y3⟩,yt,yn,yo,ya⟩,dn⟩:=y;have HCS:=aB (show d2k wr b (off+j * 9) [.int .i64 yk,.int .i64 y1,.int .i64 y2,S y3,S yt,S yn,.int .i64 yo,.slice asl ya.length cs,.bool dn] from hcs);clear hcs;have e0:=d2k.cell0 (HCS.o) rfl;have e1:=HCS.o 1 _ rfl;have e2:=HCS.o 2 _ rfl;have e3:=HCS.o 3 _ rfl;have e4:=HCS.o 4 _ rfl;have e5:=HCS.o 5 _ rfl;have e6:=HCS.o 6 _ rfl;have e7:=HCS.o 7 _ rfl;have e8:=HCS.o 8 _ rfl;go_wp2_with fail;refine HV.o.mono ?_;rintro e w3 ⟨rfl,hb3⟩;have HA3:=aB (HA.o.call hb3);clear e0 e1 e2 e3 e4 e5 e6 e7 e8 h4a hb3;cases hs:a0z (.mk yk (y1,y2,y3) yt yn yo ya)
     ·have HN:=aB (show R=((q.orders.drop (j+1)).any sumO) from by rw[HEj.o];show((a0z _||_)||false)=_;rw[hs,Bool.false_or,Bool.or_false]);clear hs;go_wp2;go_roundw
      case rel=>exact⟨j+1,by omega,by go_num,HN.o,HA3.o⟩
      case measure=>simp[intOf];omega
     ·have HN:=aB (show R=true from by rw[HEj.o];show((a0z _||_)||false)=_;rw[hs];rfl);clear hs;go_wp2;go_ret;exact⟨by rw[HN.o]<;>rfl,HB1.o.call HA3.o⟩
    ·as_aux_lemma=>
     obtain rfl:j=q.orders.length:=(by omega);clear hlt hj;have HN:=aB (show R=false from by rw[HE.o,dO];rfl);go_wp2;go_ret;exact⟨by rw[HN.o]<;>rfl,HBW.o⟩
end
end Go.Proofs.YtfkekkgfmhcanaaGreatDoor
