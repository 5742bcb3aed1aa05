/- Texts beside the shared ones. -/
import Derived.Test.YtfkekkgfmhcanaaGreatDoorTS
import Derived.Test.YtfkekkgfmhcanaaGreatDoorTA
import Derived.Test.YtfkekkgfmhcanaaGreatDoorTB
import Derived.Test.YtfkekkgfmhcanaaGreatDoorTC
import Derived.Test.YtfkekkgfmhcanaaGreatDoorTD
import Derived.Test.YtfkekkgfmhcanaaGreatDoorTE
import Derived.Test.YtfkekkgfmhcanaaGreatDoorTF
import Derived.Test.YtfkekkgfmhcanaaGreatDoorTG
import Derived.Test.YtfkekkgfmhcanaaGreatDoorTH
import Derived.Test.YtfkekkgfmhcanaaGreatDoorTI
import Derived.Test.YtfkekkgfmhcanaaGreatDoorTJ
import Derived.Test.YtfkekkgfmhcanaaGreatDoorWQP
import Derived.Test.YtfkekkgfmhcanaaGreatDoorWYG
namespace Go.Proofs.YtfkekkgfmhcanaaGreatDoor
open Go.RowKit
open _root_.Array renaming getElem?_eq_some_iff->aC
open _root_.Bool renaming true_and->rC
open _root_.Go.Lib renaming cell_of_heap->aG,hid->aB
open _root_.List renaming drop_eq_getElem_cons->aZ,drop_length->dO
open _root_.Nat renaming le_refl->aH,zero_le->dL
set_option maxRecDepth 100000
set_option maxHeartbeats 8000000
section
def vastB(x:Ex):Bool:=decide (40<partsV 200 40 x)
def shortB(s:So):Bool:= !decide (100<s.t.length)&& !decide (100<s.al.length)
def fitI(i:It):Bool:= !vastB i.x&& !decide (100<i.t.length)&& !decide (100<i.al.length)
def fitsB17(l:List It):Bool:=l.all fitI&& !decide (40<l.length)
def joinB17(j:Jo):Bool:= !vastB j.on&&shortB j.s
def fewB(q:Qu):Bool:= !decide (40<q.items.length)&& !decide (40<q.joins.length)&& !decide (40<q.group.length)&& !decide (40<q.orders.length)&& !vastB q.wher&& !vastB q.having&&shortB q.frm&&
 q.joins.all joinB17&&q.group.all (fun x=> !vastB x)&&q.orders.all (fun o=> !vastB o.x)&&fitsB17 q.items
theorem vast17(x:Ex)(W:World)(v:Value)(hv:eO W x v):Calls Tryz.prog 32 #[v,.int .i64 40] W fun e w'=>e= .returned (.int .i64 (partsV 200 40 x:Int))/\Bl W w':=parts17_any _ x (aH _) 40 40 W v rfl (by omega) hv
theorem short17_any(s:So)(W:World):Calls Tryz.prog 33 #[.agg #[S s.t,S s.al]] W fun e w'=>e= .returned (.bool (shortB s))/\Bl W w':=by
 obtain⟨t,al⟩:=s;by_cases h1:100<t.length
 ·have HE:Hid (shortB ⟨t,al⟩=false):=by show _=_;simp[shortB,h1]
  have h1':¬((t.length:Int)<=100):=(by omega);rw[HE.o];clear h1;go_enter Tryz.func33,Tryz.ntmps33;go_wp2;go_ret;exact⟨rfl,(Bl.refl W).alloc _⟩
 ·by_cases h2:100<al.length
  ·have HE:Hid (shortB ⟨t,al⟩=false):=by show _=_;simp[shortB,h2]
   have h1':(t.length:Int)<=100:=(by omega);have h2':¬((al.length:Int)<=100):=(by omega);rw[HE.o];clear h1 h2;go_enter Tryz.func33,Tryz.ntmps33;go_wp2;go_ret;exact⟨rfl,(Bl.refl W).alloc _⟩
  ·have HE:Hid (shortB ⟨t,al⟩=true):=by show _=_;simp[shortB,h1,h2]
   have h1':(t.length:Int)<=100:=(by omega);have h2':(al.length:Int)<=100:=(by omega);rw[HE.o];clear h1 h2;go_enter Tryz.func33,Tryz.ntmps33;go_wp2;go_ret;exact⟨rfl,(Bl.refl W).alloc _⟩
theorem fit17_any{l:List It}(hlen:l.length<=1000000){p:Nat->Prop}{W:World}{sv:Value}(hR:d2p fIt p W sv l):Calls Tryz.prog 34 #[sv] W fun e w'=>e= .returned (.bool (fitsB17 l))/\Bl W w':=by
 obtain⟨a,cap,rfl,hc⟩:=hR.shape;have HC:=aB hc;obtain⟨R,HR⟩:∃R,Hid (R=fitsB17 l):=⟨_,rfl⟩
 rw[<-HR.o];clear hR hc;go_enter Tryz.func34,Tryz.ntmps34;go_wp2_with fail;go_loopw [3] (fun i wr=>∃j:Nat,j<=l.length/\i= .int .i64 (j:Int)/\Hid (Bl W wr)/\Hid (R=((l.drop j).all fitI&& !decide (40<l.length)))) (fun i _=>l.length-(intOf i).toNat)
 case atStart=>exact⟨0,dL _,rfl,Bl.refl W,HR.o⟩
 case round=>
  obtain⟨j,hj,rfl,HB,HD⟩:=hrel;by_cases hlt:j<l.length
  ·obtain⟨b,off,s,rfl,-,hbl,hcs,hr⟩:=HC.o j hlt;have HE:=aB (HD.o.trans (by rw[aZ hlt,List.all_cons]));obtain⟨asl,cs,rfl⟩:=hr.shape;have HV:=aB (vast17 (l[j]).x wr _ ⟨_,rfl,hr.reads.bl HB.o⟩)
   replace hcs:=hcs.keep (HB.o.block b hbl)
   have hlt':(j:Int)<(l.length:Int):=(by omega);clear hr HD;generalize l[j]=y at *;obtain⟨st,tt,⟨yk,⟨y1,y2,y3⟩,yt,yn,yo,ya⟩,al⟩:=y;have HCS:=aB (show d2k wr b (off+j * 11) [.bool st,S tt,.int .i64 yk,.int .i64 y1,.int .i64 y2,S y3,S yt,S yn,.int .i64 yo,.slice asl ya.length cs,S al] from hcs);clear hcs;have e0:=d2k.cell0 (HCS.o) rfl;have e1:=HCS.o 1 _ rfl;have e2:=HCS.o 2 _ rfl;have e3:=HCS.o 3 _ rfl;have e4:=HCS.o 4 _ rfl;have e5:=HCS.o 5 _ rfl;have e6:=HCS.o 6 _ rfl;have e7:=HCS.o 7 _ rfl;have e8:=HCS.o 8 _ rfl;have e9:=HCS.o 9 _ rfl;have e10:=HCS.o 10 _ rfl;go_wp2_with fail;refine HV.o.mono ?_;rintro e w3 ⟨rfl,hb3⟩;have HC3:=aB (HCS.o.keep (hb3.block b (HCS.o.lt (Nat.succ_pos _))));clear e0 e1 e2 e3 e4 e5 e6 e7 e8 e9 e10;have e0:=d2k.cell0 (HC3.o) rfl;have e1:=HC3.o 1 _ rfl;have e10:=HC3.o 10 _ rfl;simp only[fitI,vastB] at HE;generalize partsV 200 40 (.mk yk (y1,y2,y3) yt yn yo ya)=n at *;by_cases h1:40<n
   ·have h1':(40:Int)<(n:Int):=by omega
    have HF:=aB (show R=false from by rw[HE.o];simp[h1]);clear HE h1;go_wp2;go_ret;exact⟨by rw[HF.o];first |rfl|(simp;omega),HB.o.call hb3⟩
   ·by_cases h2:100<tt.length
    ·have h1':¬(40:Int)<(n:Int):=by omega
     have h2':(100:Int)<(tt.length:Int):=(by omega);have HF:=aB (show R=false from by rw[HE.o];simp[h2]);clear HE h1 h2;go_wp2;go_ret;exact⟨by rw[HF.o];first |rfl|(simp;omega),HB.o.call hb3⟩
    ·by_cases h3:100<al.length
     ·have h1':¬(40:Int)<(n:Int):=by omega
      have h2':¬(100:Int)<(tt.length:Int):=(by omega);have h3':(100:Int)<(al.length:Int):=(by omega);have HF:=aB (show R=false from by rw[HE.o];simp[h3]);clear HE h1 h2 h3;go_wp2;go_ret;exact⟨by rw[HF.o];first |rfl|(simp;omega),HB.o.call hb3⟩
     ·have h1':¬(40:Int)<(n:Int):=by omega
      have h2':¬(100:Int)<(tt.length:Int):=(by omega);have h3':¬(100:Int)<(al.length:Int):=(by omega);have HF:=aB (show R=((l.drop (j+1)).all fitI&& !decide (40<l.length)) from by rw[HE.o];simp[h1,h2,h3]);clear HE h1 h2 h3;go_wp2;go_roundw
      case rel=>exact⟨j+1,by omega,by go_num,HB.o.call hb3,HF.o⟩
      case measure=>simp[intOf];omega
  ·obtain rfl:j=l.length:=by omega
   by_cases h4:40<l.length
   ·have h4':¬((l.length:Int)<=40):=by omega
    have HF:=aB (show R=false from by rw[HD.o];simp[h4]);clear h4 HD;go_wp2;go_ret;exact⟨by rw[HF.o];first |rfl|(simp;omega),HB.o⟩
   ·have h4':(l.length:Int)<=40:=by omega
    have HF:=aB (show R=true from by rw[HD.o];simp[h4]);clear h4 HD;go_wp2;go_ret;exact⟨by rw[HF.o];first |rfl|(simp;omega),HB.o⟩
theorem few17_any{q:Qu}{W:World}{v:Value}(hv:d5o W q v):Calls Tryz.prog 6 #[v] W fun e w'=>e= .returned (.bool (fewB q))/\Bl W w':=by
 obtain⟨si,sj,sw,sg,sh,so,rfl,hp⟩:=hv;obtain⟨ai,ci,aj,cj,aw,cw,ag,cg,ah,ch,ao,co,rfl,rfl,rfl,rfl,rfl,rfl⟩:=hp.slices;obtain⟨R,HR⟩:∃R,Hid (R=fewB q):=⟨_,rfl⟩
 rw[<-HR.o];have HV1:=aB (fun(B:World) (hb:Bl W B)=>vast17 q.wher B _ ⟨_,rfl,hp.wher.reads.bl hb⟩);have HV2:=aB (fun(B:World) (hb:Bl W B)=>vast17 q.having B _ ⟨_,rfl,hp.having.reads.bl hb⟩);have HI:=aB hp.items;have HJ:=aB (d6j hp.joins);have HG:=aB (d6j (d8w hp.group));have HO:=aB (d6j hp.orders);have HX:=aB (aN W (.cells (quC q (.slice ai q.items.length ci) (.slice aj q.joins.length cj) (.slice aw q.wher.args.length cw) (.slice ag q.group.length cg) (.slice ah q.having.args.length ch) (.slice ao q.orders.length co)).toArray 36));have HB:=aB ((Bl.refl W).alloc (.cells (quC q (.slice ai q.items.length ci) (.slice aj q.joins.length cj) (.slice aw q.wher.args.length cw) (.slice ag q.group.length cg) (.slice ah q.having.args.length ch) (.slice ao q.orders.length co)).toArray 36));have HE:Hid (R=_):=HR.o.trans (by unfold fewB;rfl);obtain⟨c0,c1,c2,c3,c4,c5,c6,c7,c8,c9,c10,c11,c12,c13,c14,c15,c16,c17,c18,c19,c20,c21,c22,c23⟩:=d6s HX.o;clear hp HR;by_cases h1:40<q.items.length
 ·have h1':(40:Int)<(q.items.length:Int):=by omega
  have HF:=aB (show R=false from by rw[HE.o];simp[h1]);clear h1 HE;go_enter Tryz.func6,Tryz.ntmps6;go_wp2;go_ret;exact⟨by rw[HF.o];first |rfl|(simp;omega),HB.o⟩
 by_cases h2:40<q.joins.length
 ·have h1':¬(40:Int)<(q.items.length:Int):=by omega
  have h2':(40:Int)<(q.joins.length:Int):=(by omega);have HF:=aB (show R=false from by rw[HE.o];simp[h2]);clear h1 h2 HE;go_enter Tryz.func6,Tryz.ntmps6;go_wp2;go_ret;exact⟨by rw[HF.o];first |rfl|(simp;omega),HB.o⟩
 by_cases h3:40<q.group.length
 ·have h1':¬(40:Int)<(q.items.length:Int):=by omega
  have h2':¬(40:Int)<(q.joins.length:Int):=(by omega);have h3':(40:Int)<(q.group.length:Int):=(by omega);have HF:=aB (show R=false from by rw[HE.o];simp[h3]);clear h1 h2 h3 HE;go_enter Tryz.func6,Tryz.ntmps6;go_wp2;go_ret;exact⟨by rw[HF.o];first |rfl|(simp;omega),HB.o⟩
 by_cases h4:40<q.orders.length
 ·have h1':¬(40:Int)<(q.items.length:Int):=by omega
  have h2':¬(40:Int)<(q.joins.length:Int):=(by omega);have h3':¬(40:Int)<(q.group.length:Int):=(by omega);have h4':(40:Int)<(q.orders.length:Int):=(by omega);have HF:=aB (show R=false from by rw[HE.o];simp[h4]);clear h1 h2 h3 h4 HE;go_enter Tryz.func6,Tryz.ntmps6;go_wp2;go_ret;exact⟨by rw[HF.o];first |rfl|(simp;omega),HB.o⟩
 have h1':¬(40:Int)<(q.items.length:Int):=(by omega);have h2':¬(40:Int)<(q.joins.length:Int):=(by omega);have h3':¬(40:Int)<(q.group.length:Int):=(by omega);have h4':¬(40:Int)<(q.orders.length:Int):=(by omega);have HE2:=aB (show R=(!vastB q.wher&& !vastB q.having&&shortB q.frm&&q.joins.all joinB17&&q.group.all (fun x=> !vastB x)&&q.orders.all (fun o=> !vastB o.x)&&fitsB17 q.items) from by rw[HE.o];simp[h1,h2,h3,h4]);clear h1 h2 h3 h4 HE;go_enter Tryz.func6,Tryz.ntmps6;go_wp2_with fail;refine(HV1.o _ HB.o).mono ?_;rintro e w9 ⟨rfl,hb⟩
 replace HB:=aB (HB.o.call hb)
 replace HX:=aB ((hb.block _ (aC.1 HX.o).1).trans HX.o)
 clear hb c0 c1 c2 c3 c4 c5 c6 c7 c8 c9 c10 c11 c12 c13 c14 c15 c16 c17 c18 c19 c20 c21 c22 c23;obtain⟨c0,c1,c2,c3,c4,c5,c6,c7,c8,c9,c10,c11,c12,c13,c14,c15,c16,c17,c18,c19,c20,c21,c22,c23⟩:=d6s HX.o;simp only[vastB] at HE2;generalize partsV 200 40 q.wher=n1 at *;by_cases h5:40<n1
 ·have h5':(40:Int)<(n1:Int):=by omega
  have HF:=aB (show R=false from by rw[HE2.o];simp[h5]);clear h5 HE2;go_wp2;go_ret;exact⟨by rw[HF.o];first |rfl|(simp;omega),HB.o⟩
 have h5':¬(40:Int)<(n1:Int):=(by omega);go_wp2_with fail;refine(HV2.o _ HB.o).mono ?_;rintro e w9 ⟨rfl,hb⟩
 replace HB:=aB (HB.o.call hb)
 replace HX:=aB ((hb.block _ (aC.1 HX.o).1).trans HX.o)
 clear hb c0 c1 c2 c3 c4 c5 c6 c7 c8 c9 c10 c11 c12 c13 c14 c15 c16 c17 c18 c19 c20 c21 c22 c23;obtain⟨c0,c1,c2,c3,c4,c5,c6,c7,c8,c9,c10,c11,c12,c13,c14,c15,c16,c17,c18,c19,c20,c21,c22,c23⟩:=d6s HX.o;generalize partsV 200 40 q.having=n2 at *;by_cases h6:40<n2
 ·have h6':(40:Int)<(n2:Int):=by omega
  have HF:=aB (show R=false from by rw[HE2.o];simp[h6]);clear h5 h6 HE2;go_wp2;go_ret;exact⟨by rw[HF.o];first |rfl|(simp;omega),HB.o⟩
 have h6':¬(40:Int)<(n2:Int):=(by omega);go_wp2_with fail;refine(short17_any q.frm _).mono ?_;rintro e w9 ⟨rfl,hb⟩
 replace HB:=aB (HB.o.call hb)
 replace HX:=aB ((hb.block _ (aC.1 HX.o).1).trans HX.o)
 clear hb c0 c1 c2 c3 c4 c5 c6 c7 c8 c9 c10 c11 c12 c13 c14 c15 c16 c17 c18 c19 c20 c21 c22 c23;obtain⟨c0,c1,c2,c3,c4,c5,c6,c7,c8,c9,c10,c11,c12,c13,c14,c15,c16,c17,c18,c19,c20,c21,c22,c23⟩:=d6s HX.o;cases hb7:shortB q.frm with
 |false=>
  have HF:=aB (show R=false from by rw[HE2.o];simp[hb7]);clear h5 h6 hb7 HE2;go_wp2;go_ret;exact⟨by rw[HF.o];first |rfl|(simp;omega),HB.o⟩
 |true=>
 have HE7:=aB (show R=(q.joins.all joinB17&&q.group.all (fun x=> !vastB x)&&q.orders.all (fun o=> !vastB o.x)&&fitsB17 q.items) from by rw[HE2.o];simp[h5,h6,hb7,vastB]);clear h5 h6 hb7 HE2 HV1 HV2;go_wp2_with fail;go_loopw [3] (fun i wr=>∃j:Nat,j<=q.joins.length/\i= .int .i64 (j:Int)/\Hid (Bl w9 wr)/\Hid (R=((q.joins.drop j).all joinB17&&q.group.all (fun x=> !vastB x)&&q.orders.all (fun o=> !vastB o.x)&&fitsB17 q.items))) (fun i _=>q.joins.length-(intOf i).toNat)
 case atStart=>exact⟨0,dL _,rfl,Bl.refl w9,HE7.o⟩
 case round=>
  obtain⟨j,hj,rfl,HA,HD⟩:=hrel;have HXR:=aB ((HA.o.block _ (aC.1 HX.o).1).trans HX.o);have HBW:=aB (HB.o.call HA.o);have h4a:wr.cell? ⟨W.heap.size,4,none⟩=some (.slice aj q.joins.length cj):=(aG HXR.o 4).trans rfl;by_cases hlt:j<q.joins.length
  ·as_aux_lemma=>
   obtain⟨b,off,s,ha,hbl,hcs,hr⟩:=HJ.o j hlt;subst ha;have HE:=aB (HD.o.trans (by rw[aZ hlt,List.all_cons]));obtain⟨asl,cs,rfl⟩:=hr.shape;have HV:=aB (vast17 (q.joins[j]).on wr _ ⟨_,rfl,hr.reads.bl HBW.o⟩)
   replace hcs:=hcs.keep (HBW.o.block b hbl)
   have hlt':(j:Int)<(q.joins.length:Int):=(by omega);clear hr HD;generalize q.joins[j]=y at *;obtain⟨⟨jt,jal⟩,⟨yk,⟨y1,y2,y3⟩,yt,yn,yo,ya⟩⟩:=y;have HCS:=aB (show d2k wr b (off+j * 10) [S jt,S jal,.int .i64 yk,.int .i64 y1,.int .i64 y2,S y3,S yt,S yn,.int .i64 yo,.slice asl ya.length cs] from hcs);clear hcs;have e0:=d2k.cell0 (HCS.o) rfl;have e1:=HCS.o 1 _ rfl;have e2:=HCS.o 2 _ rfl;have e3:=HCS.o 3 _ rfl;have e4:=HCS.o 4 _ rfl;have e5:=HCS.o 5 _ rfl;have e6:=HCS.o 6 _ rfl;have e7:=HCS.o 7 _ rfl;have e8:=HCS.o 8 _ rfl;have e9:=HCS.o 9 _ rfl;go_wp2_with fail;refine HV.o.mono ?_;rintro e w3 ⟨rfl,hb3⟩;have HC3:=aB (HCS.o.keep (hb3.block b (HCS.o.lt (Nat.succ_pos _))));have HX3:=aB ((hb3.block _ (aC.1 HXR.o).1).trans HXR.o);have h4b:w3.cell? ⟨W.heap.size,4,none⟩=some (.slice (some ⟨b,off,none⟩) q.joins.length cj):=(aG HX3.o 4).trans rfl;clear e0 e1 e2 e3 e4 e5 e6 e7 e8 e9 h4a;have e0:=d2k.cell0 (HC3.o) rfl;have e1:=HC3.o 1 _ rfl;simp only[joinB17,vastB] at HE;generalize partsV 200 40 (.mk yk (y1,y2,y3) yt yn yo ya)=n at *;by_cases h1:40<n
   ·have h1':(40:Int)<(n:Int):=by omega
    have HF:=aB (show R=false from by rw[HE.o];simp[h1]);clear HE h1;go_wp2;go_ret;exact⟨by rw[HF.o];first |rfl|(simp;omega),HBW.o.call hb3⟩
   have h1':¬(40:Int)<(n:Int):=(by omega);go_wp2_with fail;refine(short17_any ⟨jt,jal⟩ _).mono ?_;rintro e w4 ⟨rfl,hb4⟩;cases hb7:shortB ⟨jt,jal⟩ with
   |false=>
    have HF:=aB (show R=false from by rw[HE.o];simp[hb7]);clear HE h1 hb7;go_wp2;go_ret;exact⟨by rw[HF.o];first |rfl|(simp;omega),(HBW.o.call hb3).call hb4⟩
   |true=>
    have HF:=aB (show R=((q.joins.drop (j+1)).all joinB17&&q.group.all (fun x=> !vastB x)&&q.orders.all (fun o=> !vastB o.x)&&fitsB17 q.items) from by rw[HE.o];simp[h1,hb7,vastB]);clear HE h1 hb7;go_wp2;go_roundw
    case rel=>exact⟨j+1,by omega,by go_num,(HA.o.call hb3).call hb4,HF.o⟩
    case measure=>simp[intOf];omega
  ·as_aux_lemma=>
   obtain rfl:j=q.joins.length:=(by omega);have HD2:=aB (show R=(q.group.all (fun x=> !vastB x)&&q.orders.all (fun o=> !vastB o.x)&&fitsB17 q.items) from by rw[HD.o,dO,List.all_nil];simp only[rC]);clear hlt hj HD;go_wp2_with fail;go_loopw [4] (fun i wr=>∃j:Nat,j<=q.group.length/\i= .int .i64 (j:Int)/\Hid (Bl w9 wr)/\Hid (R=((q.group.drop j).all (fun x=> !vastB x)&&q.orders.all (fun o=> !vastB o.x)&&fitsB17 q.items))) (fun i _=>q.group.length-(intOf i).toNat)
   case atStart=>exact⟨0,dL _,rfl,HA.o,HD2.o⟩
   case round=>
    obtain⟨j,hj,rfl,HA,HD⟩:=hrel;have HXR:=aB ((HA.o.block _ (aC.1 HX.o).1).trans HX.o);have HBW:=aB (HB.o.call HA.o);have h4a:wr.cell? ⟨W.heap.size,13,none⟩=some (.slice ag q.group.length cg):=(aG HXR.o 13).trans rfl;by_cases hlt:j<q.group.length
    ·as_aux_lemma=>
     obtain⟨b,off,s,ha,hbl,hcs,hr⟩:=HG.o j hlt;subst ha;have HE:=aB (HD.o.trans (by rw[aZ hlt,List.all_cons]));obtain⟨asl,cs,rfl⟩:=hr.shape;have HV:=aB (vast17 q.group[j] wr _ ⟨_,rfl,hr.reads.bl HBW.o⟩)
     replace hcs:=hcs.keep (HBW.o.block b hbl)
     have hlt':(j:Int)<(q.group.length:Int):=(by omega);clear hr HD;generalize q.group[j]=y at *;obtain⟨yk,⟨y1,y2,y3⟩,yt,yn,yo,ya⟩:=y;have HCS:=aB (show d2k wr b (off+j * 8) [.int .i64 yk,.int .i64 y1,.int .i64 y2,S y3,S yt,S yn,.int .i64 yo,.slice asl ya.length cs] from hcs);clear hcs;have e0:=d2k.cell0 (HCS.o) rfl;have e1:=HCS.o 1 _ rfl;have e2:=HCS.o 2 _ rfl;have e3:=HCS.o 3 _ rfl;have e4:=HCS.o 4 _ rfl;have e5:=HCS.o 5 _ rfl;have e6:=HCS.o 6 _ rfl;have e7:=HCS.o 7 _ rfl;go_wp2_with fail;refine HV.o.mono ?_;rintro e w3 ⟨rfl,hb3⟩;simp only[vastB] at HE;generalize partsV 200 40 (.mk yk (y1,y2,y3) yt yn yo ya)=n at *;by_cases h1:40<n
     ·have h1':(40:Int)<(n:Int):=by omega
      have HF:=aB (show R=false from by rw[HE.o];simp[h1]);clear HE h1;go_wp2;go_ret;exact⟨by rw[HF.o];first |rfl|(simp;omega),HBW.o.call hb3⟩
     have h1':¬(40:Int)<(n:Int):=(by omega);have HF:=aB (show R=((q.group.drop (j+1)).all (fun x=> !vastB x)&&q.orders.all (fun o=> !vastB o.x)&&fitsB17 q.items) from by rw[HE.o];simp[h1,vastB]);clear HE h1;go_wp2;go_roundw
     case rel=>exact⟨j+1,by omega,by go_num,HA.o.call hb3,HF.o⟩
     case measure=>simp[intOf];omega
    ·as_aux_lemma=>
     obtain rfl:j=q.group.length:=(by omega);have HD2:=aB (show R=(q.orders.all (fun o=> !vastB o.x)&&fitsB17 q.items) from by rw[HD.o,dO,List.all_nil];simp only[rC]);clear hlt hj HD;go_wp2_with fail;go_loopw [5] (fun i wr=>∃j:Nat,j<=q.orders.length/\i= .int .i64 (j:Int)/\Hid (Bl w9 wr)/\Hid (R=((q.orders.drop j).all (fun o=> !vastB o.x)&&fitsB17 q.items))) (fun i _=>q.orders.length-(intOf i).toNat)
     case atStart=>exact⟨0,dL _,rfl,HA.o,HD2.o⟩
     case round=>
      obtain⟨j,hj,rfl,HA,HD⟩:=hrel;have HXR:=aB ((HA.o.block _ (aC.1 HX.o).1).trans HX.o);have HBW:=aB (HB.o.call HA.o);have h4a:wr.cell? ⟨W.heap.size,22,none⟩=some (.slice ao q.orders.length co):=(aG HXR.o 22).trans rfl;by_cases hlt:j<q.orders.length
      ·as_aux_lemma=>
       obtain⟨b,off,s,ha,hbl,hcs,hr⟩:=HO.o j hlt;subst ha;have HE:=aB (HD.o.trans (by rw[aZ hlt,List.all_cons]));obtain⟨asl,cs,rfl⟩:=hr.shape;have HV:=aB (vast17 (q.orders[j]).x wr _ ⟨_,rfl,hr.reads.bl HBW.o⟩)
       replace hcs:=hcs.keep (HBW.o.block b hbl)
       have hlt':(j:Int)<(q.orders.length:Int):=(by omega);clear hr HD;generalize q.orders[j]=y at *;obtain⟨⟨yk,⟨y1,y2,y3⟩,yt,yn,yo,ya⟩,dn⟩:=y;have HCS:=aB (show d2k wr b (off+j * 9) [.int .i64 yk,.int .i64 y1,.int .i64 y2,S y3,S yt,S yn,.int .i64 yo,.slice asl ya.length cs,.bool dn] from hcs);clear hcs;have e0:=d2k.cell0 (HCS.o) rfl;have e1:=HCS.o 1 _ rfl;have e2:=HCS.o 2 _ rfl;have e3:=HCS.o 3 _ rfl;have e4:=HCS.o 4 _ rfl;have e5:=HCS.o 5 _ rfl;have e6:=HCS.o 6 _ rfl;have e7:=HCS.o 7 _ rfl;have e8:=HCS.o 8 _ rfl;go_wp2_with fail;refine HV.o.mono ?_;rintro e w3 ⟨rfl,hb3⟩;simp only[vastB] at HE;generalize partsV 200 40 (.mk yk (y1,y2,y3) yt yn yo ya)=n at *;by_cases h1:40<n
       ·have h1':(40:Int)<(n:Int):=by omega
        have HF:=aB (show R=false from by rw[HE.o];simp[h1]);clear HE h1;go_wp2;go_ret;exact⟨by rw[HF.o];first |rfl|(simp;omega),HBW.o.call hb3⟩
       have h1':¬(40:Int)<(n:Int):=(by omega);have HF:=aB (show R=((q.orders.drop (j+1)).all (fun o=> !vastB o.x)&&fitsB17 q.items) from by rw[HE.o];simp[h1,vastB]);clear HE h1;go_wp2;go_roundw
       case rel=>exact⟨j+1,by omega,by go_num,HA.o.call hb3,HF.o⟩
       case measure=>simp[intOf];omega
      ·as_aux_lemma=>
       obtain rfl:j=q.orders.length:=(by omega);have HD2:=aB (show R=(fitsB17 q.items) from by rw[HD.o,dO,List.all_nil];simp only[rC]);clear hlt hj HD;have h1a:wr.cell? ⟨W.heap.size,1,none⟩=some (.slice ai q.items.length ci):=(aG HXR.o 1).trans rfl;go_wp2_with fail;refine(fit17_any (by omega) (HI.o.bl HBW.o)).mono ?_;rintro e w8 ⟨rfl,hb8⟩;go_wp2;go_ret;exact⟨by rw[HD2.o];rfl,HBW.o.call hb8⟩
end
end Go.Proofs.YtfkekkgfmhcanaaGreatDoor
