/- Texts beside the shared ones. -/
import Derived.Test.YtkimpcmkminffaaGreatDoorWX0
import Derived.Test.YtkimpcmkminffaaGreatDoorWM1
import Derived.Lib.MinMax
namespace Go.Proofs.YtkimpcmkminffaaGreatDoor
open Go.RowKit
open _root_.Go.Act renaming put->aK
open _root_.Array renaming getElem?_eq_some_iff->aC
open _root_.Go.RowKit.Below renaming grown->iL
open _root_.Bool renaming and_eq_true->aQ,eq_iff_iff->kC,false_and->pK,not_eq_true'->nT,true_and->rC
open _root_.Go.Lib renaming cell_of_heap->aG,frozen_of_heap->aJ,hid->aB
open _root_.List renaming drop_eq_getElem_cons->aZ,drop_length->dO,eq_nil_of_length_eq_zero->lM,getElem?_cons_zero->gL,getElem?_eq_getElem->aP,getElem?_eq_some_iff->aO,getElem?_take->rA,getElem_mem->dS,length_append->bD,length_cons->aX,length_map->mD,length_nil->bL,setIfInBounds_toArray->aA,set_cons_succ->aF,set_cons_zero->aD,take_add_one->dN,take_of_length_le->jS
open _root_.Nat renaming add_comm->oJ,le_refl->aH,lt_of_lt_of_le->gK,zero_add->gD,zero_le->dL
open _root_.Option renaming getD_some->oQ
open _root_.Go.World renaming ownsRow_nil->d2l
set_option maxRecDepth 100000
set_option maxHeartbeats 8000000
section
def resT(r:Int×Int):Ending:=if r.2=0 then .returned (.int .i64 r.1) else panE r.2
theorem resT_yes(t:Int):resT (t,0)= .returned (.int .i64 t):=rfl
theorem resT_2:resT (0,2)=panE 2:=rfl
theorem resT_120:resT (0,120)=panE 120:=rfl
def tyB(o f t:Int):Bool:=decide (t=0)||((decide (f=0)||decide (t=f))&&((decide (o≠6)&&decide (o≠19))||decide (3<=t)))
theorem tyB_off{o t:Int}(ho:1<=o/\o<=20)(ht:badT t=false):tyB o (vM o) t= !offT o t:=by
 unfold badT at ht;simp only[Bool.or_eq_false_iff,decide_eq_false_iff_not] at ht;obtain⟨h0,h1⟩:=ht;have h5:t=0\/t=1\/t=2\/t=3\/t=4:=(by omega);rcases twenty ho with rfl|rfl|rfl|rfl|rfl|rfl|rfl|rfl|rfl|rfl|rfl|rfl|rfl|rfl|rfl|rfl|rfl|rfl|rfl|rfl<;>rcases h5 with rfl|rfl|rfl|rfl|rfl<;>decide
theorem mk_makes{o:Int}(ho:1<=o/\o<=20)(h6:o≠6):mkO o=fU o:=by
 rcases twenty ho with rfl|rfl|rfl|rfl|rfl|rfl|rfl|rfl|rfl|rfl|rfl|rfl|rfl|rfl|rfl|rfl|rfl|rfl|rfl|rfl<;>first |decide|exact absurd rfl h6
theorem makes_rest{o:Int}{l:List Int}(ho:1<=o/\o<=20)(hl:l.length=fJ o)(hb:l.any badT=false)(hf:l.any (offT o)=false):
  makesO o l=if(allT (decide (6<=o)&&decide (o<=12)) 0 l).2≠0 then(0,120) else if o=6 then((allT (decide (6<=o)&&decide (o<=12)) 0 l).1,0) else(fU o,0):=by
 have h1:makesO o l=if(6<=o/\o<=12)/\l.headD 0≠0/\l.getLastD 0≠0/\l.headD 0≠l.getLastD 0 then(0,120) else if o=6 then(max (l.headD 0) (l.getLastD 0),0) else(mkO o,0):=by
  unfold makesO;rw[if_neg (by omega),if_neg (by rw[hb];decide),if_neg (by rw[hf];decide)]
 rw[h1];have hm:fJ o=1\/fJ o=2:=by
  rcases twenty ho with rfl|rfl|rfl|rfl|rfl|rfl|rfl|rfl|rfl|rfl|rfl|rfl|rfl|rfl|rfl|rfl|rfl|rfl|rfl|rfl<;>decide
 match l,hl,hb with
 |[],hl,_=>rw[bL] at hl;omega
 |[a],hl,hb=>
  have ha:0<=a:=by
   simp only[List.any_cons,List.any_nil,Bool.or_false,badT,Bool.or_eq_false_iff,decide_eq_false_iff_not] at hb;omega
  have e1:max (0:Int) a=a:=(by omega);simp only[List.headD_cons,List.getLastD_cons,List.getLastD_nil,allT,e1,ne_eq,not_true_eq_false,and_false,if_false,false_and];by_cases h6:o=6
  ·subst h6;simp
  ·rw[if_neg h6,if_neg h6,mk_makes ho h6]
 |[a,b],hl,hb=>
  obtain⟨ha,hb'⟩:0<=a/\0<=b:=by
   simp only[List.any_cons,List.any_nil,Bool.or_false,badT,Bool.or_eq_false_iff,decide_eq_false_iff_not] at hb;omega
  have e1:max (0:Int) a=a:=(by omega);have eA:∀q:Bool,allT q 0 [a,b]=if q=true/\b≠0/\a≠0/\b≠a then(a,120) else(max a b,0):=fun q=>by
   simp only[allT];rw[if_neg (fun h=>h.2.2.1 rfl),e1]
  rw[eA];show(if(6<=o/\o<=12)/\a≠0/\b≠0/\a≠b then((0,120):Int×Int) else if o=6 then(max a b,0) else(mkO o,0))=_;by_cases hp:6<=o/\o<=12
  ·have e3:(decide (6<=o)&&decide (o<=12))=true:=by simp[hp.1,hp.2]
   rw[e3];by_cases hq:b≠0/\a≠0/\b≠a
   ·have eB:allT true 0 [a,b]=(a,120):=by rw[eA,if_pos ⟨rfl,hq⟩]
    rw[<-eA,eB,if_pos ⟨hp,hq.2.1,hq.1,fun e=>hq.2.2 e.symm⟩];rfl
   ·have eB:allT true 0 [a,b]=(max a b,0):=by rw[eA,if_neg (fun h=>hq h.2)]
    rw[<-eA,eB,if_neg (fun h=>hq ⟨h.2.2.1,h.2.1,fun e=>h.2.2.2 e.symm⟩)];show _=if o=6 then(max a b,0) else(fU o,0)
    by_cases h6:o=6
    ·rw[if_pos h6,if_pos h6]
    ·rw[if_neg h6,if_neg h6,mk_makes ho h6]
  ·have e3:(decide (6<=o)&&decide (o<=12))=false:=by
    rw[Bool.and_eq_false_iff];simp only[decide_eq_false_iff_not];omega
   have eB:allT false 0 [a,b]=(max a b,0):=(by rw[eA,if_neg (fun h=>by cases h.1)]);rw[e3,<-eA,eB,if_neg (fun h=>hp h.1)];show _=if o=6 then(max a b,0) else(fU o,0)
   by_cases h6:o=6
   ·rw[if_pos h6,if_pos h6]
   ·rw[if_neg h6,if_neg h6,mk_makes ho h6]
 |a::b::c::r,hl,_=>simp only[aX] at hl;omega
theorem swithin_any(o f u:Int)(w:World):Calls Tryz.prog 124 #[.int .i64 o,.int .i64 f,.int .i64 u] w fun e w'=>e= .returned (.bool (decide (f<=o)&&decide (o<=u)))/\w=w':=by
 by_cases h0:f<=o
 ·by_cases h1:o<=u
  ·rw[decide_eq_true h0,decide_eq_true h1];go_enter Tryz.func124,Tryz.ntmps124;go_wp2;go_ret;exact⟨rfl,rfl⟩
  ·rw[decide_eq_true h0,decide_eq_false h1];go_enter Tryz.func124,Tryz.ntmps124;go_wp2;go_ret;exact⟨rfl,rfl⟩
 ·rw[decide_eq_false h0,pK];go_enter Tryz.func124,Tryz.ntmps124;go_wp2;go_ret;exact⟨rfl,rfl⟩
theorem styped1_any(t:Int)(w:World):Calls Tryz.prog 145 #[.int .i64 t] w fun e w'=>e= .returned (.bool (!badT t))/\Bl w w':=by
 have e:(!badT t)=(decide (0<=t)&&decide (t<=4)):=by
  unfold badT;rw[kC];simp only[nT,Bool.or_eq_false_iff,decide_eq_false_iff_not,aQ,decide_eq_true_eq];omega
 rw[e];clear e;by_cases h0:0<=t
 ·by_cases h1:t<=4
  ·rw[decide_eq_true h0,decide_eq_true h1];go_enter Tryz.func145,Tryz.ntmps145;go_wp2;go_ret;exact⟨rfl,Bl.refl _⟩
  ·rw[decide_eq_true h0,decide_eq_false h1];go_enter Tryz.func145,Tryz.ntmps145;go_wp2;go_ret;exact⟨rfl,Bl.refl _⟩
 ·rw[decide_eq_false h0,pK];go_enter Tryz.func145,Tryz.ntmps145;go_wp2;go_ret;exact⟨rfl,Bl.refl _⟩
theorem styped2_any(t o f:Int)(b5 b2:Nat)(W:World)(c5:W.cell? ⟨b5,2,none⟩=some (.int .i64 f))(c2:W.cell? ⟨b2,0,none⟩=some (.int .i64 o)):
  Calls Tryz.prog 146 #[.int .i64 t,.pointer (some ⟨b5,0,none⟩),.pointer (some ⟨b2,0,none⟩)] W fun e w'=>e= .returned (.bool (tyB o f t))/\Bl W w':=by
 unfold tyB;go_enter Tryz.func146,Tryz.ntmps146;go_wp2
 all_goals
  go_ret;exact⟨by simp_all,Bl.refl _⟩
theorem enters_styped1(args:Array Value)(w:World):(callFunc 145 args).run Tryz.prog w= .ok (.enter 145 args) w:=by simp[go_sem]
theorem enters_styped2(args:Array Value)(w:World):(callFunc 146 args).run Tryz.prog w= .ok (.enter 146 args) w:=by simp[go_sem]
theorem any_not_all{α:Type}(p:α->Bool)(l:List α):l.all (fun x=> !p x)= !l.any p:=by
 induction l with
 |nil=>rfl
 |cons x l ih=>simp[ih]
theorem all_same{α:Type}{p q:α->Bool}{l:List α}(h:∀x∈l,p x=q x):l.all p=l.all q:=by
 induction l with
 |nil=>rfl
 |cons x l ih=>simp only[List.all_cons,h x (by simp),ih fun y hy=>h y (List.mem_cons_of_mem _ hy)]
theorem styped_any(o:Int)(l:List Int)(a:Option Addr)(cap:Nat)(hfew:l.length<=1000000)(w:World)(hI:Ints w.heap.size w (.slice a l.length cap) l):
  Calls Tryz.prog 116 #[.int .i64 o,.slice a l.length cap] w fun e w'=>e=resT (makesO o l)/\Bl w w':=by
 by_cases ho:1<=o/\o<=20
 case neg=>
  have HO:=aB ho;have e:makesO o l=(0,2):=(by unfold makesO;rw[if_pos (.inl ho)]);rw[e,resT_2];clear e ho hI;go_enter Tryz.func116,Tryz.ntmps116;go_wp2_with fail;refine(b4z o HO.o _).mono ?_;rintro e w1 ⟨rfl,hb1⟩;have HB1:=aB ((((Bl.refl w).alloc (.cells #[.int .i64 o] 27)).call hb1).alloc (.cells #[S [],.int .i64 0,.int .i64 0,.int .i64 0] 110));clear hb1;go_wp2_with fail
  (with_reducible refine(smust_no _ _).mono ?_)
  rintro e w9 ⟨rfl,rfl⟩;go_wp2;exact⟨rfl,rfl,HB1.o⟩
 have HIn:=aB (fun w=>uR o ho w);have HI:=aB hI;have HO:=aB ho;clear hI;obtain⟨nm,hnm⟩:∃nm,Hid (bI o=nm):=⟨_,rfl⟩
 obtain⟨mn,hmn⟩:∃mn,Hid (fJ o=mn):=⟨_,rfl⟩
 obtain⟨f,hf⟩:∃f,Hid (vM o=f):=⟨_,rfl⟩
 obtain⟨mk,hmk⟩:∃mk,Hid (fU o=mk):=⟨_,rfl⟩
 rw[hnm.o,hmn.o,hf.o,hmk.o] at HIn;have hn63:=hfew;by_cases hlen:l.length=mn
 case neg=>
  have e:makesO o l=(0,2):=(by unfold makesO;rw[if_pos (.inr (by rw[hmn.o];exact hlen))]);rw[e,resT_2];have hne:((l.length:Int)==(mn:Int))=false:=(by simpa using(show ¬(l.length:Int)=(mn:Int) by omega));clear e ho hlen;go_enter Tryz.func116,Tryz.ntmps116;go_wp2_with fail;refine(HIn.o _).mono ?_;rintro e w1 ⟨rfl,hb1⟩;have HB1:=aB ((((Bl.refl w).alloc (.cells #[.int .i64 o] 27)).call hb1).alloc (.cells #[S nm,.int .i64 (mn:Int),.int .i64 f,.int .i64 mk] 110));clear hb1;go_wp2_with fail
  (with_reducible refine(smust_no _ _).mono ?_)
  rintro e w9 ⟨rfl,rfl⟩;go_wp2;exact⟨rfl,rfl,HB1.o⟩
 have hne:((l.length:Int)==(mn:Int))=true:=(by simpa using(show(l.length:Int)=(mn:Int) by omega));have HLEN:=aB hlen;have HA1:Hid (∀W,Bl w W->Calls Tryz.prog 144 #[.slice a l.length cap,.func (.func 145) #[] #[]] W fun e w'=>e= .returned (.bool (!l.any badT))/\Bl W w'):=fun W hb=>by
  have h:=sallT_any 145 #[] (fun t=> !badT t) a cap l (by omega) W enters_styped1 (fun x W' _=>styped1_any x W') (HI.o.more hb);rw[any_not_all] at h;exact h
 clear ho hlen;cases hbad:l.any badT
 case true=>
  have e:makesO o l=(0,2):=(by unfold makesO;rw[if_neg (by rw[hmn.o,HLEN.o];have:=HO.o;omega),if_pos hbad]);rw[e,resT_2];rw[hbad] at HA1;clear e hbad;go_enter Tryz.func116,Tryz.ntmps116;go_wp2_with fail;refine(HIn.o _).mono ?_;rintro e w1 ⟨rfl,hb1⟩;have HB1:=aB ((((Bl.refl w).alloc (.cells #[.int .i64 o] 27)).call hb1).alloc (.cells #[S nm,.int .i64 (mn:Int),.int .i64 f,.int .i64 mk] 110));clear hb1;go_wp2_with fail;refine(HA1.o _ HB1.o).mono ?_;rintro e w2 ⟨rfl,hb2⟩;have HB2:=aB (HB1.o.call hb2);clear hb2;go_wp2_with fail
  (with_reducible refine(smust_no _ _).mono ?_)
  rintro e w9 ⟨rfl,rfl⟩;go_wp2;exact⟨rfl,rfl,HB2.o⟩
 rw[hbad] at HA1;have HBAD:=aB hbad;clear hbad;have HA2:Hid (∀W b5 b2,W.cell? ⟨b5,2,none⟩=some (.int .i64 f)->W.cell? ⟨b2,0,none⟩=some (.int .i64 o)->Bl w W->Calls Tryz.prog 144 #[.slice a l.length cap,.func (.func 146) #[] #[.pointer (some ⟨b5,0,none⟩),.pointer (some ⟨b2,0,none⟩)]] W fun e w'=>e= .returned (.bool (!l.any (offT o)))/\Bl W w'):=fun W b5 b2 c5 c2 hb=>by
  have h:=sallT_any 146 #[.pointer (some ⟨b5,0,none⟩),.pointer (some ⟨b2,0,none⟩)] (tyB o f) a cap l (by omega) W enters_styped2 (fun x W' hb'=>styped2_any x o f b5 b2 W' (Bl.cell hb' c5) (Bl.cell hb' c2)) (HI.o.more hb);rw[all_same (q:=fun t=> !offT o t) (fun x hx=>by rw[<-hf.o];exact tyB_off HO.o (by
   cases hb:badT x
   ·rfl
   ·exact absurd (List.any_eq_true.2 ⟨x,hx,hb⟩) (by rw[HBAD.o];decide))),any_not_all] at h
  exact h
 cases hoff:l.any (offT o)
 case true=>
  have e:makesO o l=(0,120):=(by unfold makesO;rw[if_neg (by rw[hmn.o,HLEN.o];have:=HO.o;omega),if_neg (by rw[HBAD.o];decide),if_pos hoff]);rw[e,resT_120];rw[hoff] at HA2;clear e hoff;go_enter Tryz.func116,Tryz.ntmps116;go_wp2_with fail;refine(HIn.o _).mono ?_;rintro e w1 ⟨rfl,hb1⟩;have HB1:=aB ((((Bl.refl w).alloc (.cells #[.int .i64 o] 27)).call hb1).alloc (.cells #[S nm,.int .i64 (mn:Int),.int .i64 f,.int .i64 mk] 110));have HX1:=aB (aN w1 (.cells #[S nm,.int .i64 (mn:Int),.int .i64 f,.int .i64 mk] 110));have HO1:=aB ((aW w1 (.cells #[S nm,.int .i64 (mn:Int),.int .i64 f,.int .i64 mk] 110) (by have:=hb1.size;simp at this;omega)).trans ((hb1.block w.heap.size (by simp)).trans (aN w (.cells #[.int .i64 o] 27))));clear hb1;go_wp2_with fail;refine(HA1.o _ HB1.o).mono ?_;rintro e w2 ⟨rfl,hb2⟩;have HB2:=aB (HB1.o.call hb2);have HX2:=aB ((hb2.block _ (by simp)).trans HX1.o);have HO2:=aB ((hb2.block _ (aC.1 HO1.o).1).trans HO1.o);clear hb2;go_wp2_with fail
  (with_reducible refine(smust_yes _ _).mono ?_)
  rintro e w' ⟨rfl,rfl⟩;go_wp2_with fail;refine(HA2.o w2 w1.heap.size w.heap.size (by rw[aG HX2.o];rfl) (by rw[aG HO2.o];rfl) HB2.o).mono ?_;rintro e w3 ⟨rfl,hb3⟩;have HB3:=aB (HB2.o.call hb3);clear hb3;go_wp2_with fail
  (with_reducible refine(smust_no _ _).mono ?_)
  rintro e w9 ⟨rfl,rfl⟩;go_wp2;exact⟨rfl,rfl,HB3.o⟩
 rw[hoff] at HA2;obtain⟨R,HR⟩:∃R,Hid (allT (decide (6<=o)&&decide (o<=12)) 0 l=R):=⟨_,rfl⟩
 have HE:Hid (makesO o l=if R.2≠0 then(0,120) else if o=6 then(R.1,0) else(mk,0)):=by
  show _=_;rw[makes_rest HO.o (by rw[hmn.o];exact HLEN.o) HBAD.o hoff,HR.o,hmk.o]
 obtain⟨Z,HZ⟩:∃Z,Hid (makesO o l=Z):=⟨_,rfl⟩
 rw[HZ.o];clear hoff;obtain⟨pk,HPK⟩:∃pk,Hid ((decide (6<=o)&&decide (o<=12))=pk):=⟨_,rfl⟩
 have HW:Hid (∀W,Calls Tryz.prog 124 #[.int .i64 o,.int .i64 6,.int .i64 12] W fun e w'=>e= .returned (.bool pk)/\W=w'):=fun W=>(by rw[<-HPK.o];exact swithin_any o 6 12 W);rw[HPK.o] at HR;go_enter Tryz.func116,Tryz.ntmps116;go_wp2_with fail;refine(HIn.o _).mono ?_;rintro e w1 ⟨rfl,hb1⟩;have HB1:=aB ((((Bl.refl w).alloc (.cells #[.int .i64 o] 27)).call hb1).alloc (.cells #[S nm,.int .i64 (mn:Int),.int .i64 f,.int .i64 mk] 110));have HX1:=aB (aN w1 (.cells #[S nm,.int .i64 (mn:Int),.int .i64 f,.int .i64 mk] 110));have HO1:=aB ((aW w1 (.cells #[S nm,.int .i64 (mn:Int),.int .i64 f,.int .i64 mk] 110) (by have:=hb1.size;simp at this;omega)).trans ((hb1.block w.heap.size (by simp)).trans (aN w (.cells #[.int .i64 o] 27))));clear hb1;go_wp2_with fail;refine(HA1.o _ HB1.o).mono ?_;rintro e w2 ⟨rfl,hb2⟩;have HB2:=aB (HB1.o.call hb2);have HX2:=aB ((hb2.block _ (by simp)).trans HX1.o);have HO2:=aB ((hb2.block _ (aC.1 HO1.o).1).trans HO1.o);clear hb2;go_wp2_with fail
 (with_reducible refine(smust_yes _ _).mono ?_)
 rintro e w' ⟨rfl,rfl⟩;go_wp2_with fail;refine(HA2.o w2 w1.heap.size w.heap.size (by rw[aG HX2.o];rfl) (by rw[aG HO2.o];rfl) HB2.o).mono ?_;rintro e w3 ⟨rfl,hb3⟩;have HB3:=aB (HB2.o.call hb3);have c3:w3.cell? ⟨w1.heap.size,3,none⟩=some (.int .i64 mk):=(by rw[aG ((hb3.block _ (aC.1 HX2.o).1).trans HX2.o)];rfl);have co:w3.cell? ⟨w.heap.size,0,none⟩=some (.int .i64 o):=(by rw[aG ((hb3.block _ (aC.1 HO2.o).1).trans HO2.o)];rfl);clear hb3;go_wp2_with fail
 (with_reducible refine(smust_yes _ _).mono ?_)
 rintro e w' ⟨rfl,rfl⟩;go_wp2_with fail;go_loopw [7,34] (fun m i wr=>∃(j:Nat) (v0:Int),m= .int .i64 v0/\j<=l.length/\i= .int .i64 (j:Int)/\Hid (allT pk v0 (l.drop j)=R)/\wr=w3) (fun _ i _=>l.length-(intOf i).toNat)
 case atStart=>exact⟨0,0,rfl,dL _,rfl,HR.o,rfl⟩
 case round=>
  obtain⟨j,v0,rfl,hj,rfl,HRj,rfl⟩:=hrel;by_cases hlt:j<l.length
  ·obtain⟨b,off,rfl,ec⟩:=ints_cell (HI.o.more HB3.o) hlt;have HNX:=aB (show allT pk v0 (l.drop j)=if pk=true/\l[j]≠0/\v0≠0/\l[j]≠v0 then(v0,120) else allT pk (max v0 l[j]) (l.drop (j+1)) from by
    rw[aZ hlt];rfl)
   have hlt':(j:Int)<(l.length:Int):=(by omega);generalize l[j]=t at *;by_cases hq:pk=true/\t≠0/\v0≠0/\t≠v0
   ·have HR0:=aB (show R=(v0,120) from by rw[<-HRj.o,HNX.o,if_pos hq]);obtain⟨rfl,h1,h2,h3⟩:=hq;have g1:(t==0)=false:=(by simpa using h1);have g2:(v0==0)=false:=(by simpa using h2);have g3:(v0==t)=false:=(by simpa using(fun e:v0=t=>h3 e.symm));clear h1 h2 h3;go_wp2_with fail;refine(HW.o _).mono ?_;rintro e w' ⟨rfl,rfl⟩;go_wp2_with fail
    (with_reducible refine(smust_no _ _).mono ?_)
    rintro e w9 ⟨rfl,rfl⟩;go_wp2;exact⟨rfl,by rw[<-HZ.o,HE.o,HR0.o];rfl,HB3.o⟩
   ·have HN:=aB (show allT pk (max v0 t) (l.drop (j+1))=R from by rw[<-HRj.o,HNX.o,if_neg hq]);have hways:pk=false\/(pk=true/\t=0)\/(pk=true/\t≠0/\v0=0)\/(pk=true/\t≠0/\v0≠0/\t=v0):=by
     cases pk
     ·exact .inl rfl
     ·by_cases h1:t=0
      ·exact .inr (.inl ⟨rfl,h1⟩)
      ·by_cases h2:v0=0
       ·exact .inr (.inr (.inl ⟨rfl,h1,h2⟩))
       ·by_cases h3:t=v0
        ·exact .inr (.inr (.inr ⟨rfl,h1,h2,h3⟩))
        ·exact absurd ⟨rfl,h1,h2,h3⟩ hq
    clear hq;rcases hways with rfl|⟨rfl,rfl⟩|⟨rfl,h1,rfl⟩|⟨rfl,h1,h2,rfl⟩
    ·skip
     go_wp2_with fail;refine(HW.o _).mono ?_;rintro e w' ⟨rfl,rfl⟩;go_wp2_with fail
     (with_reducible refine(smust_yes _ _).mono ?_)
     rintro e w9 ⟨rfl,rfl⟩;go_wp2;go_roundw
     case rel=>exact⟨j+1,_,rfl,by omega,by go_num,HN.o,by simp⟩
     case measure=>simp[intOf];omega
    ·skip
     go_wp2_with fail;refine(HW.o _).mono ?_;rintro e w' ⟨rfl,rfl⟩;go_wp2_with fail
     (with_reducible refine(smust_yes _ _).mono ?_)
     rintro e w9 ⟨rfl,rfl⟩;go_wp2;go_roundw
     case rel=>exact⟨j+1,_,rfl,by omega,by go_num,HN.o,by simp⟩
     case measure=>simp[intOf];omega
    ·have g1:(t==0)=false:=by simpa using h1
     clear h1;go_wp2_with fail;refine(HW.o _).mono ?_;rintro e w' ⟨rfl,rfl⟩;go_wp2_with fail
     (with_reducible refine(smust_yes _ _).mono ?_)
     rintro e w9 ⟨rfl,rfl⟩;go_wp2;go_roundw
     case rel=>exact⟨j+1,_,rfl,by omega,by go_num,HN.o,by simp⟩
     case measure=>simp[intOf];omega
    ·have g1:(t==0)=false:=by simpa using h1
     rw[Int.max_self] at HN;clear h1 h2;go_wp2_with fail;refine(HW.o _).mono ?_;rintro e w' ⟨rfl,rfl⟩;go_wp2_with fail
     (with_reducible refine(smust_yes _ _).mono ?_)
     rintro e w9 ⟨rfl,rfl⟩;go_wp2;go_roundw
     case rel=>exact⟨j+1,_,rfl,by omega,by go_num,HN.o,by simp⟩
     case measure=>simp[intOf];omega
  ·obtain rfl:j=l.length:=by omega
   rw[dO] at HRj;have HR0:=aB (show R=(v0,0) from HRj.o.symm);have hge:¬((l.length:Int)<(l.length:Int)):=(by omega);by_cases h6:o=6
   ·subst h6;go_wp2;go_ret;exact⟨by rw[<-HZ.o,HE.o,HR0.o];rfl,HB3.o⟩
   ·have h66:(o==6)=false:=by simpa using h6
    have HO6:=aB h6;clear h6;go_wp2;go_ret;exact⟨by rw[<-HZ.o,HE.o,HR0.o,if_neg (fun h=>h rfl),if_neg HO6.o];rfl,HB3.o⟩
theorem sMakes1_any(b:Nat)(x:Int)(w:World)(hc:w.cell? ⟨b,0,none⟩=some (.int .i64 x))(hz:w.frozen? ⟨b,0,none⟩=false):Calls Tryz.prog 115 #[.pointer (some ⟨b,0,none⟩)] w fun e w'=>e= .returned (.tuple #[])/\w'=w.setCell ⟨b,0,none⟩ (.int .i64 0):=by
 go_enter Tryz.func115,Tryz.ntmps115;go_wp2;go_end0;exact⟨rfl,rfl⟩
theorem enters_sMakes1(args:Array Value)(w:World):(callFunc 115 args).run Tryz.prog w= .ok (.enter 115 args) w:=by
 simp[go_sem]
theorem makes_no{o:Int}{l:List Int}(h:(makesO o l).2≠0):makesO o l=(0,(makesO o l).2):=by
 unfold makesO at h⊢
 repeat' split at h
 all_goals first
  |rfl
  |exact absurd rfl h
  |(split<;>first |rfl|omega|(split<;>first |rfl|omega))
theorem sMakes_any(o:Int)(l:List Int)(a:Option Addr)(cap:Nat)(hfew:l.length<=1000000)(w:World)(hI:Ints w.heap.size w (.slice a l.length cap) l):
  Calls Tryz.prog 92 #[.int .i64 o,.slice a l.length cap] w fun e w'=>e= .returned (.tuple #[.int .i64 (makesO o l).1,.int .i64 (makesO o l).2])/\Bl w w':=by
 have HT:Hid (∀W,Bl w W->Calls Tryz.prog 116 #[.int .i64 o,.slice a l.length cap] W fun e w'=>e=resT (makesO o l)/\Bl W w'):=fun W hb=>styped_any o l a cap hfew W (hI.more hb);clear hI;by_cases h:(makesO o l).2=0
 ·have e:resT (makesO o l)= .returned (.int .i64 (makesO o l).1):=by unfold resT;rw[if_pos h]
  rw[e] at HT;rw[h];generalize (makesO o l).1=r at *;clear e h;have HB0:=aB (((Bl.refl w).alloc (.cells #[.int .i64 0] 23)).alloc (.cells #[.int .i64 0] 37))
  go_enter_defers Tryz.func92,Tryz.ntmps92
  go_wp2_with fail;refine(HT.o _ HB0.o).mono ?_;rintro e w' ⟨rfl,hb⟩;have hx0:=(hb.block w.heap.size (by simp;omega)).trans ((aW (w.alloc (.cells #[.int .i64 0] 23)) (.cells #[.int .i64 0] 37) (by simp)).trans (aN w _));have hx1:=(hb.block (w.heap.size+1) (by simp)).trans (aV (w.alloc (.cells #[.int .i64 0] 23)) (.cells #[.int .i64 0] 37) (k:=w.heap.size+1) (by simp));have c0:=cK hx0;have z0:=aJ hx0 0;have c1:=cK hx1;have z1:=aJ hx1 0;have HB1:=aB (HB0.o.call hb);clear hb hx0 hx1;go_wp2_with fail;refine leaves_cons (f:=114) (args:= #[.pointer (some ⟨w.heap.size+1,0,none⟩),.func (.func 115) #[] #[.pointer (some ⟨w.heap.size,0,none⟩)]]) (by simp) (by simp[go_sem]) ?_;refine(scaught_idle _ _ _).mono ?_;rintro e u' w'' ⟨rfl,rfl,rfl⟩;refine⟨.tuple #[.int .i64 r,.int .i64 0],?_,rfl,(HB1.o.set (p:=⟨w.heap.size,0,none⟩) (aH _) _).set (p:=⟨w.heap.size+1,0,none⟩) (by show w.heap.size<=w.heap.size+1;omega) _⟩;simp[results,Tryz.results92,go_sem,c0,c1]
 ·have e:resT (makesO o l)=panE (makesO o l).2:=by unfold resT;rw[if_neg h]
  have e1:(makesO o l).1=0:=(by rw[makes_no h]);rw[e] at HT;rw[e1];generalize (makesO o l).2=c at *;clear e e1 h;have HB0:=aB (((Bl.refl w).alloc (.cells #[.int .i64 0] 23)).alloc (.cells #[.int .i64 0] 37))
  go_enter_defers Tryz.func92,Tryz.ntmps92
  go_wp2_with fail;refine(HT.o _ HB0.o).mono ?_;rintro e w' ⟨rfl,hb⟩;have hx0:=(hb.block w.heap.size (by simp;omega)).trans ((aW (w.alloc (.cells #[.int .i64 0] 23)) (.cells #[.int .i64 0] 37) (by simp)).trans (aN w _));have hx1:=(hb.block (w.heap.size+1) (by simp)).trans (aV (w.alloc (.cells #[.int .i64 0] 23)) (.cells #[.int .i64 0] 37) (k:=w.heap.size+1) (by simp));have c1:=cK hx1;have z1:=aJ hx1 0;have HB1:=aB (HB0.o.call hb);have hx2:=set1_other hx0 (b:=w.heap.size+1) (by omega) 0 (.int .i64 c);clear hb;unfold panE;go_wp2_with fail;refine leaves_cons (f:=114) (args:= #[.pointer (some ⟨w.heap.size+1,0,none⟩),.func (.func 115) #[] #[.pointer (some ⟨w.heap.size,0,none⟩)]]) (by simp) (by simp[go_sem]) ?_;have h1:=sMakes1_any w.heap.size 0 (w'.setCell ⟨w.heap.size+1,0,none⟩ (.int .i64 c)) (cK hx2) (aJ hx2 0);have h3:=scaught_panic ⟨w.heap.size+1,0,none⟩ 0 c 115 #[] #[.pointer (some ⟨w.heap.size,0,none⟩)] #[.pointer (some ⟨w.heap.size,0,none⟩)] (by simp) w' (fun w1=>w1=(w'.setCell ⟨w.heap.size+1,0,none⟩ (.int .i64 c)).setCell ⟨w.heap.size,0,none⟩ (.int .i64 0)) c1 z1 enters_sMakes1 h1;refine h3.mono ?_;rintro e u' w'' ⟨rfl,rfl,rfl⟩;have c5:=cK (lN hx2 0 (.int .i64 0));have c6:=cK (set1_other (lN hx1 0 (.int .i64 c)) (b:=w.heap.size) (by omega) 0 (.int .i64 0));refine⟨.tuple #[.int .i64 0,.int .i64 c],?_,rfl,(HB1.o.set (p:=⟨w.heap.size+1,0,none⟩) (by show w.heap.size<=w.heap.size+1;omega) _).set (p:=⟨w.heap.size,0,none⟩) (aH _) _⟩;simp[results,Tryz.results92,go_sem,c5,c6]
end
section
theorem flat_at{α:Type}(F:α->List Value){N:Nat}(hF:∀x,(F x).length=N):∀(l:List α) (j i:Nat) (x:α),l[j]?=some x->i<N->(l.flatMap F)[j * N+i]?=(F x)[i]?
 |[],_,_,_,h,_=>by simp at h
 |y::r,0,i,x,h,hi=>by
  simp only[gL,Option.some.injEq] at h;subst h;rw[List.flatMap_cons,Nat.zero_mul,gD,List.getElem?_append_left (by rw[hF];exact hi)]
 |y::r,j+1,i,x,h,hi=>by
  rw[List.flatMap_cons,List.getElem?_append_right (by rw[hF,Nat.succ_mul];omega),hF];have e:(j+1) * N+i-N=j * N+i:=(by rw[Nat.succ_mul];omega);rw[e];exact flat_at F hF r j i x (by simpa using h) hi
theorem flat_len{α:Type}(F:α->List Value){N:Nat}(hF:∀x,(F x).length=N)(l:List α):(l.flatMap F).length=l.length * N:=by
 induction l with
 |nil=>simp
 |cons x r ih=>rw[List.flatMap_cons,bD,ih,hF,aX,Nat.succ_mul,oJ]
theorem own_list{α:Type}(F:α->List Value){N:Nat}(hF:∀x,(F x).length=N){W:World}{base:Nat}{T:TypeId}{v:Value}{l:List α}(h:W.ownsRow base T N v l.length (l.flatMap F)):
  ∃a cap,v= .slice a l.length cap/\(l=[]->a=none/\cap=0\/∃b,a=some ⟨b,0,none⟩)/\∀j x,l[j]?=some x->∃b,a=some ⟨b,0,none⟩/\base<=b/\b<W.heap.size/\d2k W b (0+j * N) (F x):=by
 obtain⟨hl,h|⟨g,cap,cur,e,hb,hg,hc,-,hs,ht⟩⟩:=h
 ·obtain⟨e,h0⟩:=h;obtain rfl:l=[]:=lM h0;exact⟨none,0,e,fun _=> .inl ⟨rfl,rfl⟩,fun j x hx=>by simp at hx⟩
 ·refine⟨some ⟨g,0,none⟩,cap,e,fun _=> .inr ⟨g,rfl⟩,fun j x hx=>⟨g,rfl,hb,(aC.1 hg).1,fun i u hu=>?_⟩⟩;have hi:i<N:=by
   have:=(aO.1 hu).1;rw[hF] at this;exact this
  have hj:j<l.length:=(aO.1 hx).1;have h2:=flat_at F hF l j i x hx hi;rw[hu,<-ht,rA] at h2;have h3:j * N+i<l.length * N:=by
   have:(j+1) * N<=l.length * N:=Nat.mul_le_mul_right N hj;rw[Nat.succ_mul] at this;omega
  rw[if_pos h3] at h2;rw[aG hg,gD];simpa using h2
theorem own_vals{W:World}{base:Nat}{v:Value}{l:List Vl}(h:W.ownsRow base 26 3 v l.length (l.flatMap cells3)):ReadsVl (fun b=>base<=b) W v l:=by
 obtain⟨a,cap,e,-,hc⟩:=own_list cells3 (fun _=>rfl) h;refine⟨a,cap,e,fun j x hx=>?_⟩;obtain⟨b,e1,h1,h2,h3⟩:=hc j x hx;exact⟨b,0,e1,h1,h2,h3⟩
theorem own_ints{W:World}{base:Nat}{v:Value}{l:List Int}(h:W.ownsRow base 23 1 v l.length (l.flatMap fun t=>[.int .i64 t])):Ints W.heap.size W v l:=by
 obtain⟨hl,h|⟨g,cap,cur,e,hb,hg,hc,hm,hs,ht⟩⟩:=id h
 ·obtain⟨e,h0⟩:=h;exact .inl ⟨e,lM h0⟩
 ·obtain⟨a,cap',e',-,hcs⟩:=own_list (fun t:Int=>[Value.int .i64 t]) (fun _=>rfl) h;rw[e] at e';injection e' with e1 e2 e3;subst e1;refine .inr ⟨g,0,cap,e,(aC.1 hg).1,fun j hj=>?_⟩;obtain⟨b,e4,-,-,h5⟩:=hcs j _ (aP hj);injection e4 with e4;injection e4 with e4;subst e4;rw[aP hj,oQ];have:=h5 0 _ rfl;simpa using this
theorem ints_flat(l:List Int):(l.flatMap fun t=>[Value.int .i64 t])=l.map fun t=>Value.int .i64 t:=by
 induction l with
 |nil=>rfl
 |cons x r ih=>rw[List.flatMap_cons,ih];rfl
theorem bgotT_any(t e:Int)(w:World):Calls Tryz.prog 91 #[.int .i64 t,.int .i64 e] w fun e' w'=>e'=resT (t,e)/\w=w':=by
 by_cases h:e=0
 ·subst h;rw[resT_yes];go_enter Tryz.func91,Tryz.ntmps91;go_wp2_with fail
  (with_reducible refine(bmust_yes _ _).mono ?_)
  rintro e' w1 ⟨rfl,rfl⟩;go_wp2;go_ret;exact⟨rfl,rfl⟩
 ·have hb:(e==0)=false:=by simpa using h
  have e2:resT (t,e)=panE e:=(by unfold resT;rw[if_neg h]);rw[e2];clear h;go_enter Tryz.func91,Tryz.ntmps91;go_wp2_with fail
  (with_reducible refine(bmust_no _ _).mono ?_)
  rintro e' w1 ⟨rfl,rfl⟩;go_wp2;exact⟨rfl,rfl,rfl⟩
theorem bgotV_any(v:Vl)(e:Int)(w:World):Calls Tryz.prog 94 #[VlV v,.int .i64 e] w fun e' w'=>e'=resV (v,e)/\Bl w w':=by
 obtain⟨v1,v2,v3⟩:=v;by_cases h:e=0
 ·subst h;rw[resV_yes];go_enter Tryz.func94,Tryz.ntmps94;go_wp2_with fail
  (with_reducible refine(bmust_yes _ _).mono ?_)
  rintro e' w1 ⟨rfl,rfl⟩;go_wp2;exact bodyPost_ret (v:=V v1 v2 v3) (by simp[results,Tryz.results94,go_sem]) rfl ⟨rfl,((Bl.refl _).alloc _).alloc _⟩
 ·have hb:(e==0)=false:=by simpa using h
  have e2:resV ((v1,v2,v3),e)=panE e:=(by unfold resV;rw[if_neg h]);rw[e2];clear h;go_enter Tryz.func94,Tryz.ntmps94;go_wp2_with fail
  (with_reducible refine(bmust_no _ _).mono ?_)
  rintro e' w1 ⟨rfl,rfl⟩;go_wp2;exact⟨rfl,rfl,((Bl.refl _).alloc _).alloc _⟩
theorem butypes1_any(k t v1 v2 p o:Int)(v3 n:List UInt8)(sv:Value)(w:World):Calls Tryz.prog 118 #[BdV k t (v1,v2,v3) p o n sv] w fun e w'=>e= .returned (.int .i64 t)/\Bl w w':=by
 go_enter Tryz.func118,Tryz.ntmps118;go_wp2;go_ret;exact⟨rfl,(Bl.refl w).alloc _⟩
theorem enters_butypes1(args:Array Value)(w:World):(callFunc 118 args).run Tryz.prog w= .ok (.enter 118 args) w:=by simp[go_sem]
theorem takeD_snoc{α:Type}(l:List α){j:Nat}(hj:j<l.length):l.take (j+1)=l.take j++[l[j]]:=by
 rw[dN,aP hj];rfl
theorem bsomeT_any(l:List Bd)(a:Option Addr)(cap:Nat)(hfew:l.length<=1000000)(W:World)(hR:ReadsDL (fun _=>True) W (.slice a l.length cap) l):
  Calls Tryz.prog 117 #[.slice a l.length cap,.func (.func 118) #[] #[]] W fun e w'=>(∃v,e= .returned v/\Ints w'.heap.size w' v (l.map Bd.t)/\∃a c,v= .slice a l.length c)/\Bl W w':=by
 obtain⟨a',cap',e,hc⟩:=hR.shape;obtain⟨rfl,rfl⟩:a=a'/\cap=cap':=(by simpa using e);have HC:=aB hc;have hen:=enters_butypes1;clear hR hc e;go_enter Tryz.func117,Tryz.ntmps117;go_wp2_with fail;go_loopw [4,9] (fun sv i wr=>∃(j:Nat) (v0:Value),v0=sv/\j<=l.length/\i= .int .i64 (j:Int)/\Hid (wr.ownsRow W.heap.size 23 1 v0 j (((l.map Bd.t).take j).flatMap fun t=>[.int .i64 t]))/\Hid (Bl W wr)) (fun _ i _=>l.length-(intOf i).toNat)
 case atStart=>exact⟨0,_,rfl,dL _,rfl,d2l _ _ _ _,Bl.refl W⟩
 case round=>
  obtain⟨j,v0,rfl,hj,rfl,HO,HB⟩:=hrel;by_cases hlt:j<l.length
  ·obtain⟨b,off,s,rfl,-,hbl,h9,hr⟩:=HC.o j hlt;have HSN:=aB (show((l.map Bd.t).take (j+1)).flatMap (fun t=>[Value.int .i64 t])=((l.map Bd.t).take j).flatMap (fun t=>[Value.int .i64 t])++[.int .i64 l[j].t] from by
    rw[takeD_snoc (l.map Bd.t) (by simpa using hlt),List.flatMap_append,List.getElem_map];rfl)
   obtain⟨asl,cs,rfl,-⟩:=hr.shape;obtain⟨e0,e1,e2,e3,e4,e5,e6,e7,e8⟩:=(h9.keep (HB.o.block b hbl)).nine;clear h9 hr;generalize l[j]=y at *;obtain⟨k',t',⟨v1',v2',v3'⟩,p',o',nm',args'⟩:=y;simp only[Bd.k,Bd.t,Bd.v,Bd.p,Bd.o,Bd.n,Bd.args] at e0 e1 e2 e3 e4 e5 e6 e7 e8 HSN;have hlt':(j:Int)<(l.length:Int):=(by omega);go_wp2_with fail
   (with_reducible refine(butypes1_any k' t' v1' v2' p' o' v3' nm' _ _).mono ?_)
   rintro e w1 ⟨rfl,hb1⟩;have HB1:=aB ((HB.o.alloc (.cells #[.int .i64 k',.int .i64 t',.int .i64 v1',.int .i64 v2',S v3',.int .i64 p',.int .i64 o',S nm',.slice asl args'.length cs] 30)).call hb1);have HO1:=aB (gY (((Bl.refl wr).alloc (.cells #[.int .i64 k',.int .i64 t',.int .i64 v1',.int .i64 v2',S v3',.int .i64 p',.int .i64 o',S nm',.slice asl args'.length cs] 30)).call hb1) HO.o);clear hb1 e0 e1 e2 e3 e4 e5 e6 e7 e8;go_wp2_with (at_builtin;refine wpList_append_row rfl (.tmp 13) (.tmp 17) rfl tyFull Tryz.underlying137 rfl (by decide) (by decide) W.heap.size _ j _ rfl (gY ((Bl.refl w1).alloc _) HO1.o) w1.heap.size [.int .i64 t'] rfl (aN w1 _) rfl rfl (by omega) (by have:=HB1.o.size;simp;omega) ?_)
   intro v' w2 hown2 hg2 _;have hlow:=HO1.o.lt;have HB2:=aB (iL (HB1.o.alloc (.cells #[.int .i64 t'] 23)) hg2 (by have:=HB1.o.size;simp;omega) (fun i hi=>(hlow i hi).1));have HO2:=aB hown2;clear hown2 hg2 hlow;go_wp2;go_roundw
   case rel=>exact⟨j+1,_,rfl,by omega,by go_num,by rw[HSN.o];exact HO2.o,HB2.o⟩
   case measure=>simp[intOf];omega
  ·obtain rfl:j=l.length:=by omega
   have HI:Hid (Ints wr.heap.size wr v0 (l.map Bd.t)):=by
    have h:=HO.o;rw[jS (by simp)] at h;exact own_ints (by rw[mD];exact h)
   have HS:Hid (∃a c,v0= .slice a l.length c):=by
    rcases HO.o.2 with⟨h,h0⟩|⟨g,c,cur,e,-⟩
    ·exact⟨none,0,by rw[h,h0]⟩
    ·exact⟨_,_,e⟩
   clear HO;go_wp2;go_ret;exact⟨⟨_,rfl,HI.o,HS.o⟩,HB.o⟩
theorem butypes_any(x:Bd)(hfew:x.args.length<=1000000)(W:World)(v:Value)(hv:ReadsD W x v):
  Calls Tryz.prog 93 #[v] W fun e w'=>(∃v,e= .returned v/\Ints w'.heap.size w' v (x.args.map Bd.t)/\∃a c,v= .slice a x.args.length c)/\Bl W w':=by
 obtain⟨sv,rfl,hR⟩:=hv;obtain⟨a,cap,rfl,-⟩:=hR.shape;have HT:Hid (∀W',Bl W W'->Calls Tryz.prog 117 #[.slice a x.args.length cap,.func (.func 118) #[] #[]] W' fun e w'=>(∃v,e= .returned v/\Ints w'.heap.size w' v (x.args.map Bd.t)/\∃a c,v= .slice a x.args.length c)/\Bl W' w'):=fun W' hb=>bsomeT_any x.args a cap hfew W' (hR.bl hb);clear hR;obtain⟨k,t,⟨v1,v2,v3⟩,p,o,n,args⟩:=x;simp only[Bd.k,Bd.t,Bd.v,Bd.p,Bd.o,Bd.n,Bd.args] at *;have HB0:=aB ((Bl.refl W).alloc (.cells #[.int .i64 k,.int .i64 t,.int .i64 v1,.int .i64 v2,S v3,.int .i64 p,.int .i64 o,S n,.slice a args.length cap] 73));go_enter Tryz.func93,Tryz.ntmps93;go_wp2_with fail;refine(HT.o _ HB0.o).mono ?_;rintro e w1 ⟨⟨v,rfl,hi,a2,c2,rfl⟩,hb1⟩;have HI:=aB hi;clear hi;go_wp2;go_ret;exact⟨⟨_,rfl,HI.o,_,_,rfl⟩,HB0.o.call hb1⟩
end
section
theorem bIndexD_any{W:World}{a:Option Addr}{cap:Nat}{l:List Bd}(hlen:l.length<=1000000)(hR:ReadsDL (fun _=>True) W (.slice a l.length cap) l)(hf:∀y∈l,∀(W':World) (v:Value),Bl W W'->ReadsD W' y v->Calls Tryz.prog 17 #[v] W' fun e w'=>e= .returned (.bool (sumsD y))/\Bl W' w'):
  Calls Tryz.prog 62 #[.slice a l.length cap,.func (.func 17) #[] #[]] W fun e w'=>(∃z:Int,e= .returned (.int .i64 z)/\decide (0<=z)=sumssD l)/\Bl W w':=by
 have hen:∀(args:Array Value) (w:World),(callFunc 17 args).run Tryz.prog w= .ok (.enter 17 args) w:=fun args w=>(by simp[go_sem]);obtain⟨a',cap',e,hc⟩:=hR.shape;obtain⟨rfl,rfl⟩:a=a'/\cap=cap':=(by simpa using e);have HC:=aB hc;have HF:=aB hf;clear hR hc hf e;go_enter Tryz.func62,Tryz.ntmps62;go_wp2_with fail;go_loopw [8] (fun i wr=>∃j:Nat,j<=l.length/\i= .int .i64 (j:Int)/\Hid (sumssD l=sumssD (l.drop j))/\Hid (Bl W wr)) (fun i _=>l.length-(intOf i).toNat)
 case atStart=>exact⟨0,dL _,rfl,rfl,Bl.refl W⟩
 case round=>
  obtain⟨j,hj,rfl,HD,HB⟩:=hrel;by_cases hlt:j<l.length
  ·obtain⟨b,off,s,rfl,-,hbl,h8,hr⟩:=HC.o j hlt;have HDj:=aB (sumssD_drop hlt);have HM:=aB (dS hlt);have HR:=aB (hr.bl HB.o);obtain⟨e0,e1,e2,e3,e4,e5,e6,e7,e8⟩:=(h8.keep (HB.o.block b hbl)).nine;have hlt':(j:Int)<(l.length:Int):=(by omega);clear h8 hr;generalize l[j]=y at *;obtain⟨k',t',⟨v1',v2',v3'⟩,pt',o',nm',args'⟩:=y;simp only[Bd.k,Bd.t,Bd.v,Bd.p,Bd.o,Bd.n] at e0 e1 e2 e3 e4 e5 e6 e7;go_wp2_with fail;have hRE:ReadsD wr (.mk k' t' (v1',v2',v3') pt' o' nm' args') (BdV k' t' (v1',v2',v3') pt' o' nm' s):=⟨s,rfl,HR.o⟩
   refine(HF.o _ HM.o _ _ HB.o hRE).mono ?_;rintro e w1 ⟨rfl,hb1⟩;have HB1:=aB (HB.o.call hb1);clear hb1 hRE e0 e1 e2 e3 e4 e5 e6 e7 e8;cases hs:sumsD (.mk k' t' (v1',v2',v3') pt' o' nm' args')
   ·have HN:=aB (show sumssD l=sumssD (l.drop (j+1)) from by rw[HD.o,HDj.o,hs,Bool.false_or]);clear hs;go_wp2;go_roundw
    case rel=>exact⟨j+1,by omega,by go_num,HN.o,HB1.o⟩
    case measure=>simp[intOf];omega
   ·have HN:=aB (show decide (0<=(j:Int))=sumssD l from by rw[HD.o,HDj.o,hs,Bool.true_or];simp);clear hs;go_wp2;go_ret;exact⟨⟨_,rfl,HN.o⟩,HB1.o⟩
  ·obtain rfl:j=l.length:=by omega
   have HN:=aB (show decide (0<=(-1:Int))=sumssD l from by rw[HD.o,dO];rfl);go_wp2;go_ret;exact⟨⟨_,rfl,HN.o⟩,HB.o⟩
theorem bSums_any:∀(n:Nat) (x:Bd),partsD x<=n->n<=1000000->∀(W:World) (v:Value),ReadsD W x v->Calls Tryz.prog 17 #[v] W fun e w'=>e= .returned (.bool (sumsD x))/\Bl W w'
 |0,x,h,_,_,_,_=>by have:=partsD_pos x;omega
 |n+1,x,hx,hn,W,v,hv=>by
  obtain⟨sv,rfl,hL⟩:=hv;have IH:Hid (∀y∈x.args,∀(W':World) (v:Value),Bl W W'->ReadsD W' y v->Calls Tryz.prog 17 #[v] W' fun e w'=>e= .returned (.bool (sumsD y))/\Bl W' w'):=fun y hy W' v _ hv=>bSums_any n y (by have:=partsD_arg hy;omega) (by omega) W' v hv;have hlen:x.args.length<=1000000:=(by have:=partsD_len x;omega);obtain⟨k,t,⟨v1,v2,v3⟩,pt,o,nm,args⟩:=x
  replace hlen:args.length<=1000000:=hlen
  replace hL:ReadsDL (fun _=>True) W sv args:=hL
  obtain⟨a,cap,rfl,-⟩:=hL.shape;have HI:Hid (∀w,Bl W w->Calls Tryz.prog 62 #[.slice a args.length cap,.func (.func 17) #[] #[]] w fun e w'=>(∃z:Int,e= .returned (.int .i64 z)/\decide (0<=z)=sumssD args)/\Bl w w'):=fun w hb=>bIndexD_any hlen (hL.bl hb) fun y hy W' v hb' hv=>IH.o y hy W' v (hb.call hb') hv;show Calls Tryz.prog 17 #[BdV k t (v1,v2,v3) pt o nm (.slice a args.length cap)] W fun e w'=>e= .returned (.bool (sumsD (.mk k t (v1,v2,v3) pt o nm args)))/\Bl W w';have HS:Hid (sumsD (.mk k t (v1,v2,v3) pt o nm args)=(k==5||sumssD args)):=(by show _=_;simp only[sumsD]);rw[HS.o];generalize sumssD args=bs at *;clear hL hx IH hlen;generalize args.length=m at *;have HCt:Hid (∀w,Bl W w->Calls Tryz.prog 41 #[.slice a m cap,.func (.func 17) #[] #[]] w fun e w'=>e= .returned (.bool bs)/\Bl w w'):=fun w hb=>by
   have H1:=aB (HI.o w hb);clear HI;go_enter Tryz.func41,Tryz.ntmps41;go_wp2_with fail;refine H1.o.mono ?_;rintro e w1 ⟨⟨z,rfl,hz⟩,hb1⟩;have HZ:=aB hz;clear hz;go_wp2;go_ret;exact⟨by rw[<-HZ.o];rfl,hb1⟩
  clear HI;by_cases h5:k=5
  ·subst h5;go_enter Tryz.func17,Tryz.ntmps17;go_wp2;go_ret;exact⟨rfl,(Bl.refl W).alloc _⟩
  ·have hb5:(k==5)=false:=by simpa using h5
   rw[hb5,Bool.false_or];clear h5;go_enter Tryz.func17,Tryz.ntmps17;go_wp2_with fail;refine(HCt.o _ ((Bl.refl W).alloc _)).mono ?_;rintro e w1 ⟨rfl,hb1⟩;go_wp2;go_ret;exact⟨rfl,((Bl.refl W).alloc _).call hb1⟩
theorem bEqualD_any{W:World}{a a2:Option Addr}{cap cap2:Nat}{l m:List Bd}(hlen:l.length<=1000000)(hR:ReadsDL (fun _=>True) W (.slice a l.length cap) l)(hR2:ReadsDL (fun _=>True) W (.slice a2 m.length cap2) m)
  (hf:∀y∈l,∀z (W':World) (v u:Value),Bl W W'->ReadsD W' y v->ReadsD W' z u->Calls Tryz.prog 68 #[v,u] W' fun e w'=>e= .returned (.bool (sameD y z))/\Bl W' w'):
  Calls Tryz.prog 90 #[.slice a l.length cap,.slice a2 m.length cap2,.func (.func 68) #[] #[]] W fun e w'=>e= .returned (.bool (samesD l m))/\Bl W w':=by
 have hen:∀(args:Array Value) (w:World),(callFunc 68 args).run Tryz.prog w= .ok (.enter 68 args) w:=fun args w=>(by simp[go_sem]);by_cases hl:l.length=m.length
 case neg=>
  rw[samesD_ne hl];have hl':¬(l.length:Int)=(m.length:Int):=(by omega);have hb:((l.length:Int)==(m.length:Int))=false:=(by simpa using hl');have hb':((l.length:Int) != (m.length:Int))=true:=(by simpa using hl');clear hl hl' hR hR2 hf hlen;go_enter Tryz.func90,Tryz.ntmps90;go_wp2;go_ret;exact⟨rfl,Bl.refl W⟩
 obtain⟨a',cap',e,hc⟩:=hR.shape;obtain⟨rfl,rfl⟩:a=a'/\cap=cap':=(by simpa using e);obtain⟨a3,cap3,e3,hc2⟩:=hR2.shape;obtain⟨rfl,rfl⟩:a2=a3/\cap2=cap3:=(by simpa using e3);have HC:=aB hc;have HC2:=aB hc2;have HF:=aB hf;have HLE:=aB hl;rw[<-hl];obtain⟨R,HRR⟩:∃R,Hid (samesD l m=R):=⟨_,rfl⟩
 rw[HRR.o];clear hR hR2 hc hc2 hf e e3 hl;go_enter Tryz.func90,Tryz.ntmps90;go_wp2_with fail;go_loopw [17] (fun i wr=>∃j:Nat,j<=l.length/\i= .int .i64 (j:Int)/\Hid (R=samesD (l.drop j) (m.drop j))/\Hid (Bl W wr)) (fun i _=>l.length-(intOf i).toNat)
 case atStart=>exact⟨0,dL _,rfl,HRR.o.symm,Bl.refl W⟩
 case round=>
  obtain⟨j,hj,rfl,HD,HB⟩:=hrel;by_cases hlt:j<l.length
  ·have hlt2:j<m.length:=by have:=HLE.o;omega
   obtain⟨b,off,s,rfl,-,hbl,h8,hr⟩:=HC.o j hlt;obtain⟨b2,off2,s2,rfl,-,hbl2,h82,hr2⟩:=HC2.o j hlt2;have HDj:=aB (samesD_drop hlt hlt2);have HM:=aB (dS hlt);obtain⟨asl,cs,rfl,-⟩:=hr.shape;obtain⟨asl2,cs2,rfl,-⟩:=hr2.shape;have HR:=aB (hr.bl HB.o);have HR2:=aB (hr2.bl HB.o);have h8':=(h8.keep (HB.o.block b hbl)).nine;obtain⟨e0,e1,e2,e3,e4,e5,e6,e7,e8⟩:=h8';have h82':=(h82.keep (HB.o.block b2 hbl2)).nine;obtain⟨i0,i1,i2,i3,i4,i5,i6,i7,i8⟩:=h82'
   replace hbl2:b2<wr.heap.size:=gK hbl2 HB.o.size
   have hlt':(j:Int)<(l.length:Int):=(by omega);clear h8 hr h82 hr2;generalize l[j]=y at *;generalize m[j]=z at *;obtain⟨k',t',⟨v1',v2',v3'⟩,pt',o',nm',args'⟩:=y;obtain⟨k3,t3,⟨u1,u2,u3⟩,pt3,o3,nm3,args3⟩:=z;simp only[Bd.k,Bd.t,Bd.v,Bd.p,Bd.o,Bd.n,Bd.args] at e0 e1 e2 e3 e4 e5 e6 e7 e8 i0 i1 i2 i3 i4 i5 i6 i7 i8 HR HR2;have HW:=aB (((Bl.refl wr).alloc (.cells #[.int .i64 k',.int .i64 t',.int .i64 v1',.int .i64 v2',S v3',.int .i64 pt',.int .i64 o',S nm',.slice asl args'.length cs] 30)).alloc (.cells #[.int .i64 k3,.int .i64 t3,.int .i64 u1,.int .i64 u2,S u3,.int .i64 pt3,.int .i64 o3,S nm3,.slice asl2 args3.length cs2] 30));have HRE:=aB (show ReadsD wr (.mk k' t' (v1',v2',v3') pt' o' nm' args') (BdV k' t' (v1',v2',v3') pt' o' nm' (.slice asl args'.length cs)) from⟨_,rfl,HR.o⟩);have HRE2:=aB (show ReadsD wr (.mk k3 t3 (u1,u2,u3) pt3 o3 nm3 args3) (BdV k3 t3 (u1,u2,u3) pt3 o3 nm3 (.slice asl2 args3.length cs2)) from⟨_,rfl,HR2.o⟩);go_wp2_with fail;refine(HF.o _ HM.o (.mk k3 t3 (u1,u2,u3) pt3 o3 nm3 args3) _ _ _ (HB.o.call HW.o) (HRE.o.bl HW.o) (HRE2.o.bl HW.o)).mono ?_;rintro e w1 ⟨rfl,hb1⟩;have HB1:=aB ((HB.o.call HW.o).call hb1);clear hb1 e0 e1 e2 e3 e4 e5 e6 e7 e8 i0 i1 i2 i3 i4 i5 i6 i7 i8;cases hs:sameD (.mk k' t' (v1',v2',v3') pt' o' nm' args') (.mk k3 t3 (u1,u2,u3) pt3 o3 nm3 args3)
   ·have HN:=aB (show R=false from by rw[HD.o,HDj.o,hs,pK]);clear hs;go_wp2;go_ret;exact⟨by rw[HN.o];rfl,HB1.o⟩
   ·have HN:=aB (show R=samesD (l.drop (j+1)) (m.drop (j+1)) from by rw[HD.o,HDj.o,hs,rC]);clear hs;go_wp2;go_roundw
    case rel=>exact⟨j+1,by omega,by go_num,HN.o,HB1.o⟩
    case measure=>simp[intOf];omega
  ·obtain rfl:j=l.length:=by omega
   have HN:=aB (show R=true from by rw[HD.o,dO,HLE.o,dO];rfl);go_wp2;go_ret;exact⟨by rw[HN.o];rfl,HB.o⟩
theorem bSame_any:∀(n:Nat) (x y:Bd),partsD x<=n->n<=1000000->∀(W:World) (v u:Value),ReadsD W x v->ReadsD W y u->Calls Tryz.prog 68 #[v,u] W fun e w'=>e= .returned (.bool (sameD x y))/\Bl W w'
 |0,x,_,h,_,_,_,_,_,_=>by have:=partsD_pos x;omega
 |n+1,x,y,hx,hn,W,v,u,hv,hu=>by
  obtain⟨sv,rfl,hL⟩:=hv;obtain⟨su,rfl,hL2⟩:=hu;have IH:Hid (∀y∈x.args,∀z (W':World) (v u:Value),ReadsD W' y v->ReadsD W' z u->Calls Tryz.prog 68 #[v,u] W' fun e w'=>e= .returned (.bool (sameD y z))/\Bl W' w'):=fun y hy z W' v u hv hu=>bSame_any n y z (by have:=partsD_arg hy;omega) (by omega) W' v u hv hu;have hlen:x.args.length<=1000000:=(by have:=partsD_len x;omega);obtain⟨k,t,⟨v1,v2,v3⟩,pt,o,nm,args⟩:=x;obtain⟨k2,t2,⟨u1,u2,u3⟩,pt2,o2,nm2,args2⟩:=y
  replace hlen:args.length<=1000000:=hlen
  replace hL:ReadsDL (fun _=>True) W sv args:=hL
  replace hL2:ReadsDL (fun _=>True) W su args2:=hL2
  obtain⟨a,cap,rfl,-⟩:=hL.shape;obtain⟨a2,cap2,rfl,-⟩:=hL2.shape;have HQ:Hid (∀w,Bl W w->Calls Tryz.prog 90 #[.slice a args.length cap,.slice a2 args2.length cap2,.func (.func 68) #[] #[]] w fun e w'=>e= .returned (.bool (samesD args args2))/\Bl w w'):=fun w hb=>bEqualD_any hlen (hL.bl hb) (hL2.bl hb) fun y hy z W' v u _ hv hu=>IH.o y hy z W' v u hv hu;show Calls Tryz.prog 68 #[BdV k t (v1,v2,v3) pt o nm (.slice a args.length cap),BdV k2 t2 (u1,u2,u3) pt2 o2 nm2 (.slice a2 args2.length cap2)] W fun e w'=>e= .returned (.bool (sameD (.mk k t (v1,v2,v3) pt o nm args) (.mk k2 t2 (u1,u2,u3) pt2 o2 nm2 args2)))/\Bl W w';clear hL hL2 hx IH hlen;by_cases hk:k=k2
  case neg=>
   have HE:Hid (sameD (.mk k t (v1,v2,v3) pt o nm args) (.mk k2 t2 (u1,u2,u3) pt2 o2 nm2 args2)=false):=(by show _=_;simp[sameD,hk]);rw[HE.o];have hb:(k==k2)=false:=(by simpa using hk);have hb':(k != k2)=true:=(by simpa using hk);clear HQ;go_enter Tryz.func68,Tryz.ntmps68;go_wp2;go_ret;exact⟨rfl,((Bl.refl W).alloc _).alloc _⟩
  subst hk;by_cases ht:t=t2
  case neg=>
   have HE:Hid (sameD (.mk k t (v1,v2,v3) pt o nm args) (.mk k t2 (u1,u2,u3) pt2 o2 nm2 args2)=false):=(by show _=_;simp[sameD,ht]);rw[HE.o];have hb:(t==t2)=false:=(by simpa using ht);have hb':(t != t2)=true:=(by simpa using ht);clear HQ;go_enter Tryz.func68,Tryz.ntmps68;go_wp2;go_ret;exact⟨rfl,((Bl.refl W).alloc _).alloc _⟩
  subst ht;by_cases hv1:v1=u1
  case neg=>
   have HE:Hid (sameD (.mk k t (v1,v2,v3) pt o nm args) (.mk k t (u1,u2,u3) pt2 o2 nm2 args2)=false):=(by show _=_;simp[sameD,hv1]);rw[HE.o];have hb:(v1==u1)=false:=(by simpa using hv1);have hb':(v1 != u1)=true:=(by simpa using hv1);clear HQ;go_enter Tryz.func68,Tryz.ntmps68;go_wp2;go_ret;exact⟨rfl,((Bl.refl W).alloc _).alloc _⟩
  subst hv1;by_cases hv2:v2=u2
  case neg=>
   have HE:Hid (sameD (.mk k t (v1,v2,v3) pt o nm args) (.mk k t (v1,u2,u3) pt2 o2 nm2 args2)=false):=(by show _=_;simp[sameD,hv2]);rw[HE.o];have hb:(v2==u2)=false:=(by simpa using hv2);have hb':(v2 != u2)=true:=(by simpa using hv2);clear HQ;go_enter Tryz.func68,Tryz.ntmps68;go_wp2;go_ret;exact⟨rfl,((Bl.refl W).alloc _).alloc _⟩
  subst hv2;by_cases hv3:v3=u3
  case neg=>
   have HE:Hid (sameD (.mk k t (v1,v2,v3) pt o nm args) (.mk k t (v1,v2,u3) pt2 o2 nm2 args2)=false):=(by show _=_;simp[sameD,hv3]);rw[HE.o];have hb:(v3==u3)=false:=(by simpa using hv3);have hb':(v3 != u3)=true:=(by simpa using hv3);clear HQ;go_enter Tryz.func68,Tryz.ntmps68;go_wp2;go_ret;exact⟨rfl,((Bl.refl W).alloc _).alloc _⟩
  subst hv3;by_cases hp:pt=pt2
  case neg=>
   have HE:Hid (sameD (.mk k t (v1,v2,v3) pt o nm args) (.mk k t (v1,v2,v3) pt2 o2 nm2 args2)=false):=(by show _=_;simp[sameD,hp]);rw[HE.o];have hb:(pt==pt2)=false:=(by simpa using hp);have hb':(pt != pt2)=true:=(by simpa using hp);clear HQ;go_enter Tryz.func68,Tryz.ntmps68;go_wp2;go_ret;exact⟨rfl,((Bl.refl W).alloc _).alloc _⟩
  subst hp;by_cases ho:o=o2
  case neg=>
   have HE:Hid (sameD (.mk k t (v1,v2,v3) pt o nm args) (.mk k t (v1,v2,v3) pt o2 nm2 args2)=false):=(by show _=_;simp[sameD,ho]);rw[HE.o];have hb:(o==o2)=false:=(by simpa using ho);have hb':(o != o2)=true:=(by simpa using ho);clear HQ;go_enter Tryz.func68,Tryz.ntmps68;go_wp2;go_ret;exact⟨rfl,((Bl.refl W).alloc _).alloc _⟩
  subst ho;by_cases hnm:nm=nm2
  case neg=>
   have HE:Hid (sameD (.mk k t (v1,v2,v3) pt o nm args) (.mk k t (v1,v2,v3) pt o nm2 args2)=false):=(by show _=_;simp[sameD,hnm]);rw[HE.o];have hb:(nm==nm2)=false:=(by simpa using hnm);have hb':(nm != nm2)=true:=(by simpa using hnm);clear HQ;go_enter Tryz.func68,Tryz.ntmps68;go_wp2;go_ret;exact⟨rfl,((Bl.refl W).alloc _).alloc _⟩
  subst hnm;have HS:Hid (sameD (.mk k t (v1,v2,v3) pt o nm args) (.mk k t (v1,v2,v3) pt o nm args2)=samesD args args2):=(by show _=_;simp[sameD]);rw[HS.o];generalize samesD args args2=bs at *;generalize args.length=m at *;generalize args2.length=m2 at *;go_enter Tryz.func68,Tryz.ntmps68;go_wp2_with fail;refine(HQ.o _ (((Bl.refl W).alloc _).alloc _)).mono ?_;rintro e w1 ⟨rfl,hb1⟩;go_wp2;go_ret;exact⟨rfl,(((Bl.refl W).alloc _).alloc _).call hb1⟩
end
section
abbrev doesE(n:Int)(f:FuncId)(b:Nat):MapEntry:={key:= .int .i64 n,val:= .func (.func f) #[] #[],born:=b}
abbrev kinV(f g:FuncId):Value:= .agg #[.func (.func f) #[] #[],.func (.func g) #[] #[]]
abbrev kindE(n:Int)(f g:FuncId)(b:Nat):MapEntry:={key:= .int .i64 n,val:=kinV f g,born:=b}
abbrev doesAll:Array MapEntry:= #[doesE 1 153 0,doesE 2 154 1,doesE 3 155 2,doesE 4 156 3,doesE 5 157 4,doesE 15 158 5,doesE 20 159 6,doesE 6 160 7,doesE 19 161 8]
theorem doesIns0(w:World):(Instr.mapUpdate 169 (.map (some w.heap.size)) (.int .i64 1) (.func (.func 153) #[] #[])).run Tryz.prog (w.alloc (.map #[] 0))= .ok () (w.alloc (.map #[doesE 1 153 0] 1)):=
 eQ Tryz.underlying169 Tryz.underlying27 w #[] 0 1 _ rfl
theorem doesIns1(w:World):(Instr.mapUpdate 169 (.map (some w.heap.size)) (.int .i64 2) (.func (.func 154) #[] #[])).run Tryz.prog (w.alloc (.map #[doesE 1 153 0] 1))= .ok () (w.alloc (.map #[doesE 1 153 0,doesE 2 154 1] 2)):=
 eQ Tryz.underlying169 Tryz.underlying27 w #[doesE 1 153 0] 1 2 _ rfl
theorem doesIns2(w:World):(Instr.mapUpdate 169 (.map (some w.heap.size)) (.int .i64 3) (.func (.func 155) #[] #[])).run Tryz.prog (w.alloc (.map #[doesE 1 153 0,doesE 2 154 1] 2))= .ok () (w.alloc (.map #[doesE 1 153 0,doesE 2 154 1,doesE 3 155 2] 3)):=
 eQ Tryz.underlying169 Tryz.underlying27 w #[doesE 1 153 0,doesE 2 154 1] 2 3 _ rfl
theorem doesIns3(w:World):(Instr.mapUpdate 169 (.map (some w.heap.size)) (.int .i64 4) (.func (.func 156) #[] #[])).run Tryz.prog (w.alloc (.map #[doesE 1 153 0,doesE 2 154 1,doesE 3 155 2] 3))= .ok () (w.alloc (.map #[doesE 1 153 0,doesE 2 154 1,doesE 3 155 2,doesE 4 156 3] 4)):=
 eQ Tryz.underlying169 Tryz.underlying27 w #[doesE 1 153 0,doesE 2 154 1,doesE 3 155 2] 3 4 _ rfl
theorem doesIns4(w:World):(Instr.mapUpdate 169 (.map (some w.heap.size)) (.int .i64 5) (.func (.func 157) #[] #[])).run Tryz.prog (w.alloc (.map #[doesE 1 153 0,doesE 2 154 1,doesE 3 155 2,doesE 4 156 3] 4))= .ok () (w.alloc (.map #[doesE 1 153 0,doesE 2 154 1,doesE 3 155 2,doesE 4 156 3,doesE 5 157 4] 5)):=
 eQ Tryz.underlying169 Tryz.underlying27 w #[doesE 1 153 0,doesE 2 154 1,doesE 3 155 2,doesE 4 156 3] 4 5 _ rfl
theorem doesIns5(w:World):(Instr.mapUpdate 169 (.map (some w.heap.size)) (.int .i64 15) (.func (.func 158) #[] #[])).run Tryz.prog (w.alloc (.map #[doesE 1 153 0,doesE 2 154 1,doesE 3 155 2,doesE 4 156 3,doesE 5 157 4] 5))= .ok () (w.alloc (.map #[doesE 1 153 0,doesE 2 154 1,doesE 3 155 2,doesE 4 156 3,doesE 5 157 4,doesE 15 158 5] 6)):=
 eQ Tryz.underlying169 Tryz.underlying27 w #[doesE 1 153 0,doesE 2 154 1,doesE 3 155 2,doesE 4 156 3,doesE 5 157 4] 5 15 _ rfl
theorem doesIns6(w:World):(Instr.mapUpdate 169 (.map (some w.heap.size)) (.int .i64 20) (.func (.func 159) #[] #[])).run Tryz.prog (w.alloc (.map #[doesE 1 153 0,doesE 2 154 1,doesE 3 155 2,doesE 4 156 3,doesE 5 157 4,doesE 15 158 5] 6))= .ok () (w.alloc (.map #[doesE 1 153 0,doesE 2 154 1,doesE 3 155 2,doesE 4 156 3,doesE 5 157 4,doesE 15 158 5,doesE 20 159 6] 7)):=
 eQ Tryz.underlying169 Tryz.underlying27 w #[doesE 1 153 0,doesE 2 154 1,doesE 3 155 2,doesE 4 156 3,doesE 5 157 4,doesE 15 158 5] 6 20 _ rfl
theorem doesIns7(w:World):(Instr.mapUpdate 169 (.map (some w.heap.size)) (.int .i64 6) (.func (.func 160) #[] #[])).run Tryz.prog (w.alloc (.map #[doesE 1 153 0,doesE 2 154 1,doesE 3 155 2,doesE 4 156 3,doesE 5 157 4,doesE 15 158 5,doesE 20 159 6] 7))= .ok () (w.alloc (.map #[doesE 1 153 0,doesE 2 154 1,doesE 3 155 2,doesE 4 156 3,doesE 5 157 4,doesE 15 158 5,doesE 20 159 6,doesE 6 160 7] 8)):=
 eQ Tryz.underlying169 Tryz.underlying27 w #[doesE 1 153 0,doesE 2 154 1,doesE 3 155 2,doesE 4 156 3,doesE 5 157 4,doesE 15 158 5,doesE 20 159 6] 7 6 _ rfl
theorem doesIns8(w:World):(Instr.mapUpdate 169 (.map (some w.heap.size)) (.int .i64 19) (.func (.func 161) #[] #[])).run Tryz.prog (w.alloc (.map #[doesE 1 153 0,doesE 2 154 1,doesE 3 155 2,doesE 4 156 3,doesE 5 157 4,doesE 15 158 5,doesE 20 159 6,doesE 6 160 7] 8))= .ok () (w.alloc (.map doesAll 9)):=
 eQ Tryz.underlying169 Tryz.underlying27 w #[doesE 1 153 0,doesE 2 154 1,doesE 3 155 2,doesE 4 156 3,doesE 5 157 4,doesE 15 158 5,doesE 20 159 6,doesE 6 160 7] 8 19 _ rfl
theorem sdoes_any(w:World):Calls Tryz.prog 127 #[] w fun e w'=>e= .returned (.map (some w.heap.size))/\w'=w.alloc (.map doesAll 9):=by
 have hmm:= @run_makeMap Tryz.prog;have h0:=doesIns0;have h1:=doesIns1;have h2:=doesIns2;have h3:=doesIns3;have h4:=doesIns4;have h5:=doesIns5;have h6:=doesIns6;have h7:=doesIns7;have h8:=doesIns8;go_enter Tryz.func127,Tryz.ntmps127;go_wp2;go_ret;exact⟨rfl,rfl⟩
theorem does_at1{w:World}{r:Nat}(hb:w.heap[r]?=some (.map doesAll 9)):(Instr.lookup 169 (.map (some r)) (.int .i64 1) false).run Tryz.prog w= .ok (.func (.func 153) #[] #[]) w:=eP Tryz.underlying169 Tryz.underlying27 hb (i:=0) rfl
theorem does_at2{w:World}{r:Nat}(hb:w.heap[r]?=some (.map doesAll 9)):(Instr.lookup 169 (.map (some r)) (.int .i64 2) false).run Tryz.prog w= .ok (.func (.func 154) #[] #[]) w:=eP Tryz.underlying169 Tryz.underlying27 hb (i:=1) rfl
theorem does_at3{w:World}{r:Nat}(hb:w.heap[r]?=some (.map doesAll 9)):(Instr.lookup 169 (.map (some r)) (.int .i64 3) false).run Tryz.prog w= .ok (.func (.func 155) #[] #[]) w:=eP Tryz.underlying169 Tryz.underlying27 hb (i:=2) rfl
theorem does_at4{w:World}{r:Nat}(hb:w.heap[r]?=some (.map doesAll 9)):(Instr.lookup 169 (.map (some r)) (.int .i64 4) false).run Tryz.prog w= .ok (.func (.func 156) #[] #[]) w:=eP Tryz.underlying169 Tryz.underlying27 hb (i:=3) rfl
theorem does_at5{w:World}{r:Nat}(hb:w.heap[r]?=some (.map doesAll 9)):(Instr.lookup 169 (.map (some r)) (.int .i64 5) false).run Tryz.prog w= .ok (.func (.func 157) #[] #[]) w:=eP Tryz.underlying169 Tryz.underlying27 hb (i:=4) rfl
theorem does_at15{w:World}{r:Nat}(hb:w.heap[r]?=some (.map doesAll 9)):(Instr.lookup 169 (.map (some r)) (.int .i64 15) false).run Tryz.prog w= .ok (.func (.func 158) #[] #[]) w:=eP Tryz.underlying169 Tryz.underlying27 hb (i:=5) rfl
theorem does_at20{w:World}{r:Nat}(hb:w.heap[r]?=some (.map doesAll 9)):(Instr.lookup 169 (.map (some r)) (.int .i64 20) false).run Tryz.prog w= .ok (.func (.func 159) #[] #[]) w:=eP Tryz.underlying169 Tryz.underlying27 hb (i:=6) rfl
theorem does_at6{w:World}{r:Nat}(hb:w.heap[r]?=some (.map doesAll 9)):(Instr.lookup 169 (.map (some r)) (.int .i64 6) false).run Tryz.prog w= .ok (.func (.func 160) #[] #[]) w:=eP Tryz.underlying169 Tryz.underlying27 hb (i:=7) rfl
theorem does_at19{w:World}{r:Nat}(hb:w.heap[r]?=some (.map doesAll 9)):(Instr.lookup 169 (.map (some r)) (.int .i64 19) false).run Tryz.prog w= .ok (.func (.func 161) #[] #[]) w:=eP Tryz.underlying169 Tryz.underlying27 hb (i:=8) rfl
abbrev kindAll:Array MapEntry:= #[kindE 1 69 70 0,kindE 2 71 72 1,kindE 3 73 74 2,kindE 4 75 76 3,kindE 5 77 78 4]
theorem kindIns0(w:World):(Instr.mapUpdate 96 (.map (some w.heap.size)) (.int .i64 1) (kinV 69 70)).run Tryz.prog (w.alloc (.map #[] 0))= .ok () (w.alloc (.map #[kindE 1 69 70 0] 1)):=
 eQ Tryz.underlying96 Tryz.underlying22 w #[] 0 1 _ rfl
theorem kindIns1(w:World):(Instr.mapUpdate 96 (.map (some w.heap.size)) (.int .i64 2) (kinV 71 72)).run Tryz.prog (w.alloc (.map #[kindE 1 69 70 0] 1))= .ok () (w.alloc (.map #[kindE 1 69 70 0,kindE 2 71 72 1] 2)):=
 eQ Tryz.underlying96 Tryz.underlying22 w #[kindE 1 69 70 0] 1 2 _ rfl
theorem kindIns2(w:World):(Instr.mapUpdate 96 (.map (some w.heap.size)) (.int .i64 3) (kinV 73 74)).run Tryz.prog (w.alloc (.map #[kindE 1 69 70 0,kindE 2 71 72 1] 2))= .ok () (w.alloc (.map #[kindE 1 69 70 0,kindE 2 71 72 1,kindE 3 73 74 2] 3)):=
 eQ Tryz.underlying96 Tryz.underlying22 w #[kindE 1 69 70 0,kindE 2 71 72 1] 2 3 _ rfl
theorem kindIns3(w:World):(Instr.mapUpdate 96 (.map (some w.heap.size)) (.int .i64 4) (kinV 75 76)).run Tryz.prog (w.alloc (.map #[kindE 1 69 70 0,kindE 2 71 72 1,kindE 3 73 74 2] 3))= .ok () (w.alloc (.map #[kindE 1 69 70 0,kindE 2 71 72 1,kindE 3 73 74 2,kindE 4 75 76 3] 4)):=
 eQ Tryz.underlying96 Tryz.underlying22 w #[kindE 1 69 70 0,kindE 2 71 72 1,kindE 3 73 74 2] 3 4 _ rfl
theorem kindIns4(w:World):(Instr.mapUpdate 96 (.map (some w.heap.size)) (.int .i64 5) (kinV 77 78)).run Tryz.prog (w.alloc (.map #[kindE 1 69 70 0,kindE 2 71 72 1,kindE 3 73 74 2,kindE 4 75 76 3] 4))= .ok () (w.alloc (.map kindAll 5)):=
 eQ Tryz.underlying96 Tryz.underlying22 w #[kindE 1 69 70 0,kindE 2 71 72 1,kindE 3 73 74 2,kindE 4 75 76 3] 4 5 _ rfl
theorem bkinds_any(w:World):Calls Tryz.prog 48 #[] w fun e w'=>e= .returned (.map (some w.heap.size))/\w'=w.alloc (.map kindAll 5):=by
 have hmm:= @run_makeMap Tryz.prog;have h0:=kindIns0;have h1:=kindIns1;have h2:=kindIns2;have h3:=kindIns3;have h4:=kindIns4;go_enter Tryz.func48,Tryz.ntmps48;go_wp2;go_ret;exact⟨rfl,rfl⟩
theorem kind_at1{w:World}{r:Nat}(hb:w.heap[r]?=some (.map kindAll 5)):(Instr.lookup 96 (.map (some r)) (.int .i64 1) false).run Tryz.prog w= .ok (kinV 69 70) w:=eP Tryz.underlying96 Tryz.underlying22 hb (i:=0) rfl
theorem kind_at2{w:World}{r:Nat}(hb:w.heap[r]?=some (.map kindAll 5)):(Instr.lookup 96 (.map (some r)) (.int .i64 2) false).run Tryz.prog w= .ok (kinV 71 72) w:=eP Tryz.underlying96 Tryz.underlying22 hb (i:=1) rfl
theorem kind_at3{w:World}{r:Nat}(hb:w.heap[r]?=some (.map kindAll 5)):(Instr.lookup 96 (.map (some r)) (.int .i64 3) false).run Tryz.prog w= .ok (kinV 73 74) w:=eP Tryz.underlying96 Tryz.underlying22 hb (i:=2) rfl
theorem kind_at4{w:World}{r:Nat}(hb:w.heap[r]?=some (.map kindAll 5)):(Instr.lookup 96 (.map (some r)) (.int .i64 4) false).run Tryz.prog w= .ok (kinV 75 76) w:=eP Tryz.underlying96 Tryz.underlying22 hb (i:=3) rfl
theorem kind_at5{w:World}{r:Nat}(hb:w.heap[r]?=some (.map kindAll 5)):(Instr.lookup 96 (.map (some r)) (.int .i64 5) false).run Tryz.prog w= .ok (kinV 77 78) w:=eP Tryz.underlying96 Tryz.underlying22 hb (i:=4) rfl
theorem kind_field{w:World}(f g:FuncId):(Instr.field 95 (kinV f g) 0).run Tryz.prog w= .ok (.func (.func f) #[] #[]) w:=rfl
theorem kind_field1{w:World}(f g:FuncId):(Instr.field 95 (kinV f g) 1).run Tryz.prog w= .ok (.func (.func g) #[] #[]) w:=rfl
end
section
abbrev cellsB(k t v1 v2:Int)(v3:List UInt8)(p o:Int)(n:List UInt8)(s:Value):Array Value:= #[.int .i64 k,.int .i64 t,.int .i64 v1,.int .i64 v2,S v3,.int .i64 p,.int .i64 o,S n,s]
def kindT(x:Bd):Int×Int:=
 if x.k=1 then(x.v.1,0) else if x.k=2 then(x.t,0) else if x.k=3 then makesO x.o (x.args.map Bd.t)
 else if x.k=4 then(allT true 0 (x.args.map Bd.t))
 else
  let all:=allT true 0 (x.args.map Bd.t)
  if all.2≠0 then(0,all.2) else if x.n=c1m/\all.1≠0/\all.1≠2 then(0,120) else if sumssD x.args then(0,302) else(if x.n=c1m\/x.n=gX then 2 else all.1,0)
theorem resT_bad{t c:Int}(h:c≠0):resT (t,c)=panE c:=by unfold resT;rw[if_neg h]
theorem resT_ways(t c:Int):(c=0/\resT (t,c)= .returned (.int .i64 t))\/(c≠0/\resT (t,c)=panE c):=by
 by_cases h:c=0
 ·exact .inl ⟨h,by unfold resT;rw[if_pos h]⟩
 ·exact .inr ⟨h,by unfold resT;rw[if_neg h]⟩
theorem resT_eq{r r':Int×Int}(h:r.2=r'.2)(h2:r.2=0->r.1=r'.1):resT r=resT r':=by
 unfold resT;rw[<-h];split
 ·rename_i h0;rw[h2 h0]
 ·rfl
theorem buvalued_any(k t v1 v2 p o:Int)(v3 n:List UInt8)(sv:Value)(w:World):Calls Tryz.prog 69 #[BdV k t (v1,v2,v3) p o n sv] w fun e w'=>e= .returned (.int .i64 v1)/\Bl w w':=by
 go_enter Tryz.func69,Tryz.ntmps69;go_wp2;go_ret;exact⟨rfl,(Bl.refl w).alloc _⟩
theorem bkinds2_any(k t v1 v2 p o:Int)(v3 n:List UInt8)(sv:Value)(w:World):Calls Tryz.prog 71 #[BdV k t (v1,v2,v3) p o n sv] w fun e w'=>e= .returned (.int .i64 t)/\Bl w w':=by
 go_enter Tryz.func71,Tryz.ntmps71;go_wp2;go_ret;exact⟨rfl,(Bl.refl w).alloc _⟩
theorem bucommon_any(x:Bd)(hfew:x.args.length<=1000000)(W:World)(v:Value)(hv:ReadsD W x v):
  Calls Tryz.prog 75 #[v] W fun e w'=>e=resT (allT true 0 (x.args.map Bd.t))/\Bl W w':=by
 have HTY:Hid (∀W',Bl W W'->Calls Tryz.prog 93 #[v] W' fun e w'=>(∃v,e= .returned v/\Ints w'.heap.size w' v (x.args.map Bd.t)/\∃a c,v= .slice a x.args.length c)/\Bl W' w'):=fun W' hb=>butypes_any x hfew W' v (hv.bl hb);obtain⟨sv,rfl,hR⟩:=hv;obtain⟨a,cap,rfl,-⟩:=hR.shape;have HRD:=aB hR;clear hR;obtain⟨k,t,⟨v1,v2,v3⟩,p,o,n,args⟩:=x;simp only[Bd.k,Bd.t,Bd.v,Bd.p,Bd.o,Bd.n,Bd.args] at *;have HB0:=aB ((Bl.refl W).alloc (.cells (cellsB k t v1 v2 v3 p o n (.slice a args.length cap)) 73));have HX0:=aB (aN W (.cells (cellsB k t v1 v2 v3 p o n (.slice a args.length cap)) 73));have hlm:(args.map Bd.t).length=args.length:=(by simp);obtain⟨R,HR⟩:∃R,Hid (allT true 0 (args.map Bd.t)=R):=⟨_,rfl⟩
 rw[HR.o];obtain⟨m,HMN⟩:∃m,Hid (args.length=m):=⟨_,rfl⟩
 rw[HMN.o] at HTY HB0 HX0 hlm hfew;rw[HMN.o];generalize args.map Bd.t=l at *;obtain rfl:l.length=m:=hlm;go_enter Tryz.func75,Tryz.ntmps75;go_wp2_with fail;refine(HTY.o _ HB0.o).mono ?_;rintro e w1 ⟨⟨v,rfl,hi,a2,c2,rfl⟩,hb1⟩;have HI:=aB hi;have HB1:=aB (HB0.o.call hb1);clear hi hb1;go_wp2_with fail;go_loopw [3,9] (fun m i wr=>∃(j:Nat) (v0:Int),m= .int .i64 v0/\j<=l.length/\i= .int .i64 (j:Int)/\Hid (allT true v0 (l.drop j)=R)/\wr=w1) (fun _ i _=>l.length-(intOf i).toNat)
 case atStart=>exact⟨0,0,rfl,dL _,rfl,HR.o,rfl⟩
 case round=>
  obtain⟨j,v0,rfl,hj,rfl,HRj,rfl⟩:=hrel;by_cases hlt:j<l.length
  ·obtain⟨b,off,rfl,ec⟩:=ints_cell HI.o hlt;have HNX:=aB (show allT true v0 (l.drop j)=if true=true/\l[j]≠0/\v0≠0/\l[j]≠v0 then(v0,120) else allT true (max v0 l[j]) (l.drop (j+1)) from by
    rw[aZ hlt];rfl)
   have hlt':(j:Int)<(l.length:Int):=(by omega);generalize l[j]=t at *;by_cases hq:t≠0/\v0≠0/\t≠v0
   ·have HR0:=aB (show R=(v0,120) from by rw[<-HRj.o,HNX.o,if_pos ⟨rfl,hq⟩]);obtain⟨h1,h2,h3⟩:=hq;have g1:(t==0)=false:=(by simpa using h1);have g2:(v0==0)=false:=(by simpa using h2);have g3:(t==v0)=false:=(by simpa using h3);clear h1 h2 h3;go_wp2_with fail
    (with_reducible refine(bmust_no _ _).mono ?_)
    rintro e w9 ⟨rfl,rfl⟩;go_wp2;exact⟨rfl,by rw[HR0.o];rfl,HB1.o⟩
   ·have HN:=aB (show allT true (max v0 t) (l.drop (j+1))=R from by rw[<-HRj.o,HNX.o,if_neg (fun h=>hq h.2)]);have hways:t=0\/(t≠0/\v0=0)\/(t≠0/\v0≠0/\t=v0):=by
     by_cases h1:t=0
     ·exact .inl h1
     ·by_cases h2:v0=0
      ·exact .inr (.inl ⟨h1,h2⟩)
      ·by_cases h3:t=v0
       ·exact .inr (.inr ⟨h1,h2,h3⟩)
       ·exact absurd ⟨h1,h2,h3⟩ hq
    clear hq;rcases hways with rfl|⟨h1,rfl⟩|⟨h1,h2,rfl⟩
    ·skip
     go_wp2_with fail
     (with_reducible refine(bmust_yes _ _).mono ?_)
     rintro e w9 ⟨rfl,rfl⟩;go_wp2;go_roundw
     case rel=>exact⟨j+1,_,rfl,by omega,by go_num,HN.o,by simp⟩
     case measure=>simp[intOf];omega
    ·have g1:(t==0)=false:=by simpa using h1
     clear h1;go_wp2_with fail
     (with_reducible refine(bmust_yes _ _).mono ?_)
     rintro e w9 ⟨rfl,rfl⟩;go_wp2;go_roundw
     case rel=>exact⟨j+1,_,rfl,by omega,by go_num,HN.o,by simp⟩
     case measure=>simp[intOf];omega
    ·have g1:(t==0)=false:=by simpa using h1
     rw[Int.max_self] at HN;clear h1 h2;go_wp2_with fail
     (with_reducible refine(bmust_yes _ _).mono ?_)
     rintro e w9 ⟨rfl,rfl⟩;go_wp2;go_roundw
     case rel=>exact⟨j+1,_,rfl,by omega,by go_num,HN.o,by simp⟩
     case measure=>simp[intOf];omega
  ·obtain rfl:j=l.length:=by omega
   rw[dO] at HRj;have HR0:=aB (show R=(v0,0) from HRj.o.symm);have hge:¬((l.length:Int)<(l.length:Int)):=(by omega);go_wp2;go_ret;exact⟨by rw[HR0.o];rfl,HB1.o⟩
theorem budone_any(x:Bd)(hfew:x.args.length<=1000000)(W:World)(v:Value)(hv:ReadsD W x v):
  Calls Tryz.prog 73 #[v] W fun e w'=>e=resT (makesO x.o (x.args.map Bd.t))/\Bl W w':=by
 have HTY:Hid (∀W',Bl W W'->Calls Tryz.prog 93 #[v] W' fun e w'=>(∃v,e= .returned v/\Ints w'.heap.size w' v (x.args.map Bd.t)/\∃a c,v= .slice a x.args.length c)/\Bl W' w'):=fun W' hb=>butypes_any x hfew W' v (hv.bl hb);obtain⟨sv,rfl,hR⟩:=hv;obtain⟨a,cap,rfl,-⟩:=hR.shape;have HRD:=aB hR;clear hR;obtain⟨k,t,⟨v1,v2,v3⟩,p,o,n,args⟩:=x;simp only[Bd.k,Bd.t,Bd.v,Bd.p,Bd.o,Bd.n,Bd.args] at *;have HB0:=aB ((Bl.refl W).alloc (.cells (cellsB k t v1 v2 v3 p o n (.slice a args.length cap)) 73));have HX0:=aB (aN W (.cells (cellsB k t v1 v2 v3 p o n (.slice a args.length cap)) 73));have hlm:(args.map Bd.t).length=args.length:=(by simp);obtain⟨m,HMN⟩:∃m,Hid (args.length=m):=⟨_,rfl⟩
 rw[HMN.o] at HTY HB0 HX0 hlm hfew;rw[HMN.o];generalize args.map Bd.t=l at *;obtain rfl:l.length=m:=hlm;have HMK:Hid (∀(a2:Option Addr) (c2:Nat) (W:World),Ints W.heap.size W (.slice a2 l.length c2) l->Calls Tryz.prog 92 #[.int .i64 o,.slice a2 l.length c2] W fun e w'=>e= .returned (.tuple #[.int .i64 (makesO o l).1,.int .i64 (makesO o l).2])/\Bl W w'):=fun a2 c2 W hI=>sMakes_any o l a2 c2 hfew W hI;have HRS:Hid (resT (makesO o l)=resT ((makesO o l).1,(makesO o l).2)):=rfl;rw[HRS.o];generalize (makesO o l).1=r at *;generalize (makesO o l).2=c at *;go_enter Tryz.func73,Tryz.ntmps73;go_wp2_with fail;refine(bM (fun B=>B.heap[W.heap.size]?=some (.cells (cellsB k t v1 v2 v3 p o n (.slice a l.length cap)) 73 (0,0))) ((.take 0 (.take 1 (.take 2 (.take 3 (.one 4 (.one 5 (.take 6 (.take 7 (.one 8 (.take 9 .done))))))))))) (by kernel_rfl) (by kernel_rfl) (by kernel_rfl) (fun c a d v w h=>by cases d<;>exact h) (HX0.o) ?_);intro wd HWD hY;iterate 4 (refine aI rfl (by rfl) (by intro w hSw;(try dsimp only at hSw);obtain⟨e0,e1,e2,e3,e4,e5,e6,e7,e8⟩:=nine hSw;go_simp;(try(first |with_reducible rfl|rfl))) ?_;(try simp only[aK,aA,aD,aF]))
 refine aL rfl (fun K hK=>?_);go_simp;(refine(HTY.o _ (HB0.o.call HWD.o)).mono ?_;rintro e w1 ⟨⟨v,rfl,hi,a2,c2,rfl⟩,hb1⟩;have HI:=aB hi;have HB1:=aB (HB0.o.call (HWD.o.call hb1));clear hi);go_wp2_with fail;refine hK.o _ _ ((by first |exact keep_b hY hb1|exact keep_b hY hb2|exact hY)) ?_;clear hY hK K;intro hY;refine aL rfl (fun K hK=>?_);go_simp;(refine(HMK.o a2 c2 _ HI.o).mono ?_;rintro e w2 ⟨rfl,hb2⟩;have HB2:=aB (HB1.o.call hb2));go_wp2_with fail;refine hK.o _ _ ((by first |exact keep_b hY hb1|exact keep_b hY hb2|exact hY)) ?_;clear hY hK K;intro hY;iterate 2 (refine aI rfl (by rfl) (by intro w hSw;(try dsimp only at hSw);obtain⟨e0,e1,e2,e3,e4,e5,e6,e7,e8⟩:=nine hSw;go_simp;(try(first |with_reducible rfl|rfl))) ?_;(try simp only[aK,aA,aD,aF]))
 refine aL rfl (fun K hK=>?_);go_simp;(refine(bgotT_any r c _).mono ?_;rintro e w3 ⟨he,rfl⟩;rcases resT_ways r c with⟨hc,h⟩|⟨hc,h⟩<;>(rw[h] at he;subst he;have HH:=aB h;clear h hc);rotate_left;(· go_wp2;exact⟨rfl,HH.o.symm,HB2.o⟩));go_wp2_with fail;refine hK.o _ _ ((by first |exact keep_b hY hb1|exact keep_b hY hb2|exact hY)) ?_;clear hY hK K;intro hY;refine aI rfl (by rfl) (by intro w hSw;(try dsimp only at hSw);obtain⟨e0,e1,e2,e3,e4,e5,e6,e7,e8⟩:=nine hSw;go_simp;(try(first |with_reducible rfl|rfl))) ?_;(try simp only[aK,aA,aD,aF])
 refine fO ?_;go_wp2;go_ret;exact⟨HH.o.symm,HB2.o⟩
end
section
def sumT(n:List UInt8)(t c:Int)(s:Bool):Int×Int:=if c≠0 then(0,c) else if n=c1m/\t≠0/\t≠2 then(0,120) else if s then(0,302) else(if n=c1m\/n=gX then 2 else t,0)
theorem sumT_other{n:List UInt8}{t:Int}{s:Bool}(hn:n≠c1m):sumT n t 0 s=if s then(0,302) else(if n=gX then 2 else t,0):=by
 unfold sumT;simp[hn]
theorem bcontainsD_any{l:List Bd}{a:Option Addr}{cap:Nat}(hp:partssD l<=1000000)(W:World)(hR:ReadsDL (fun _=>True) W (.slice a l.length cap) l):
  Calls Tryz.prog 41 #[.slice a l.length cap,.func (.func 17) #[] #[]] W fun e w'=>e= .returned (.bool (sumssD l))/\Bl W w':=by
 have H1:=aB (bIndexD_any (by have:=partssD_len l;omega) hR fun y hy W' v hb hv=>bSums_any _ y (aH _) (by have:=partssD_mem hy;omega) W' v hv);generalize sumssD l=bs at *;generalize l.length=m at *;clear hR hp;go_enter Tryz.func41,Tryz.ntmps41;go_wp2_with fail;refine H1.o.mono ?_;rintro e w1 ⟨⟨z,rfl,hz⟩,hb1⟩;have HZ:=aB hz;clear hz;go_wp2;go_ret;exact⟨by rw[<-HZ.o];rfl,hb1⟩
theorem busummed_any(x:Bd)(hp:partsD x<=1000000)(W:World)(v:Value)(hv:ReadsD W x v):
  Calls Tryz.prog 77 #[v] W fun e w'=>e=resT (sumT x.n (allT true 0 (x.args.map Bd.t)).1 (allT true 0 (x.args.map Bd.t)).2 (sumssD x.args))/\Bl W w':=by
 have HCM:Hid (∀W',Bl W W'->Calls Tryz.prog 75 #[v] W' fun e w'=>e=resT (allT true 0 (x.args.map Bd.t))/\Bl W' w'):=fun W' hb=>bucommon_any x (by have:=partsD_len x;omega) W' v (hv.bl hb);have hpp:partssD x.args<=1000000:=by
  cases x with
  |mk k t v p o n l=>
   simp only[partsD] at hp;show partssD l<=_;omega
 obtain⟨sv,rfl,hR⟩:=hv;obtain⟨a,cap,rfl,-⟩:=hR.shape;have HRD:=aB hR;clear hR;obtain⟨k,t,⟨v1,v2,v3⟩,p,o,n,args⟩:=x;simp only[Bd.k,Bd.t,Bd.v,Bd.p,Bd.o,Bd.n,Bd.args] at *;have HB0:=aB ((Bl.refl W).alloc (.cells (cellsB k t v1 v2 v3 p o n (.slice a args.length cap)) 73));have HX0:=aB (aN W (.cells (cellsB k t v1 v2 v3 p o n (.slice a args.length cap)) 73));have HCT:Hid (∀W',Bl W W'->Calls Tryz.prog 41 #[.slice a args.length cap,.func (.func 17) #[] #[]] W' fun e w'=>e= .returned (.bool (sumssD args))/\Bl W' w'):=fun W' hb=>bcontainsD_any hpp W' (HRD.o.bl hb);have HQ:Hid (resT (allT true 0 (args.map Bd.t))=resT ((allT true 0 (args.map Bd.t)).1,(allT true 0 (args.map Bd.t)).2)):=rfl;rw[HQ.o] at HCM;generalize (allT true 0 (args.map Bd.t)).1=ty at *;generalize (allT true 0 (args.map Bd.t)).2=c at *;generalize sumssD args=sm at *;generalize args.length=m at *;clear hpp hp HRD HQ;obtain⟨Z,HZ⟩:∃Z,Hid (resT (sumT n ty c sm)=Z):=⟨_,rfl⟩
 rw[HZ.o];rcases resT_ways ty c with⟨hc,h⟩|⟨hc,h⟩
 case inr=>
  rw[h] at HCM;have HZ2:=aB (show panE c=Z from by rw[<-HZ.o];unfold sumT;rw[if_pos hc,resT_bad hc]);clear h hc HZ;go_enter Tryz.func77,Tryz.ntmps77;go_wp2_with fail;refine(HCM.o _ HB0.o).mono ?_;rintro e w1 ⟨rfl,hb1⟩;go_wp2;exact⟨rfl,HZ2.o,HB0.o.call hb1⟩
 rw[h] at HCM;subst hc;clear h;by_cases hn:n=c1m
 ·subst hn;by_cases h0:ty=0
  ·subst h0;cases sm
   ·skip
    go_enter Tryz.func77,Tryz.ntmps77;go_wp2_with fail;refine(HCM.o _ HB0.o).mono ?_;rintro e w1 ⟨rfl,hb1⟩;have HX1:=aB (keep_b HX0.o hb1);have HB1:=aB (HB0.o.call hb1);obtain⟨e0,e1,e2,e3,e4,e5,e6,e7,e8⟩:=nine HX1.o;clear hb1;go_wp2_with fail
    (with_reducible refine(bmust_yes _ _).mono ?_)
    rintro e w9 ⟨rfl,rfl⟩;go_wp2_with fail;refine(HCT.o _ HB1.o).mono ?_;rintro e w2 ⟨rfl,hb2⟩;obtain⟨e0,e1,e2,e3,e4,e5,e6,e7,e8⟩:=nine (keep_b HX1.o hb2);have HB2:=aB (HB1.o.call hb2);clear HB1;have HB1:=HB2;clear hb2;go_wp2_with fail
    (with_reducible refine(bmust_yes _ _).mono ?_)
    rintro e w9 ⟨rfl,rfl⟩;go_wp2;go_ret;exact⟨by rw[<-HZ.o];rfl,HB1.o⟩
   ·skip
    go_enter Tryz.func77,Tryz.ntmps77;go_wp2_with fail;refine(HCM.o _ HB0.o).mono ?_;rintro e w1 ⟨rfl,hb1⟩;have HX1:=aB (keep_b HX0.o hb1);have HB1:=aB (HB0.o.call hb1);obtain⟨e0,e1,e2,e3,e4,e5,e6,e7,e8⟩:=nine HX1.o;clear hb1;go_wp2_with fail
    (with_reducible refine(bmust_yes _ _).mono ?_)
    rintro e w9 ⟨rfl,rfl⟩;go_wp2_with fail;refine(HCT.o _ HB1.o).mono ?_;rintro e w2 ⟨rfl,hb2⟩;obtain⟨e0,e1,e2,e3,e4,e5,e6,e7,e8⟩:=nine (keep_b HX1.o hb2);have HB2:=aB (HB1.o.call hb2);clear HB1;have HB1:=HB2;clear hb2;go_wp2_with fail
    (with_reducible refine(bmust_no _ _).mono ?_)
    rintro e w9 ⟨rfl,rfl⟩;go_wp2;exact⟨rfl,by rw[<-HZ.o];rfl,HB1.o⟩
  ·have g0:(ty==0)=false:=by simpa using h0
   by_cases h2:ty=2
   ·subst h2;cases sm
    ·skip
     go_enter Tryz.func77,Tryz.ntmps77;go_wp2_with fail;refine(HCM.o _ HB0.o).mono ?_;rintro e w1 ⟨rfl,hb1⟩;have HX1:=aB (keep_b HX0.o hb1);have HB1:=aB (HB0.o.call hb1);obtain⟨e0,e1,e2,e3,e4,e5,e6,e7,e8⟩:=nine HX1.o;clear hb1;go_wp2_with fail
     (with_reducible refine(bmust_yes _ _).mono ?_)
     rintro e w9 ⟨rfl,rfl⟩;go_wp2_with fail;refine(HCT.o _ HB1.o).mono ?_;rintro e w2 ⟨rfl,hb2⟩;obtain⟨e0,e1,e2,e3,e4,e5,e6,e7,e8⟩:=nine (keep_b HX1.o hb2);have HB2:=aB (HB1.o.call hb2);clear HB1;have HB1:=HB2;clear hb2;go_wp2_with fail
     (with_reducible refine(bmust_yes _ _).mono ?_)
     rintro e w9 ⟨rfl,rfl⟩;go_wp2;go_ret;exact⟨by rw[<-HZ.o];rfl,HB1.o⟩
    ·skip
     go_enter Tryz.func77,Tryz.ntmps77;go_wp2_with fail;refine(HCM.o _ HB0.o).mono ?_;rintro e w1 ⟨rfl,hb1⟩;have HX1:=aB (keep_b HX0.o hb1);have HB1:=aB (HB0.o.call hb1);obtain⟨e0,e1,e2,e3,e4,e5,e6,e7,e8⟩:=nine HX1.o;clear hb1;go_wp2_with fail
     (with_reducible refine(bmust_yes _ _).mono ?_)
     rintro e w9 ⟨rfl,rfl⟩;go_wp2_with fail;refine(HCT.o _ HB1.o).mono ?_;rintro e w2 ⟨rfl,hb2⟩;obtain⟨e0,e1,e2,e3,e4,e5,e6,e7,e8⟩:=nine (keep_b HX1.o hb2);have HB2:=aB (HB1.o.call hb2);clear HB1;have HB1:=HB2;clear hb2;go_wp2_with fail
     (with_reducible refine(bmust_no _ _).mono ?_)
     rintro e w9 ⟨rfl,rfl⟩;go_wp2;exact⟨rfl,by rw[<-HZ.o];rfl,HB1.o⟩
   ·have g2:(ty==2)=false:=by simpa using h2
    have HZ2:=aB (show panE 120=Z from by rw[<-HZ.o];unfold sumT;rw[if_neg (by decide),if_pos ⟨rfl,h0,h2⟩];rfl);clear HZ h0 h2;go_enter Tryz.func77,Tryz.ntmps77;go_wp2_with fail;refine(HCM.o _ HB0.o).mono ?_;rintro e w1 ⟨rfl,hb1⟩;have HX1:=aB (keep_b HX0.o hb1);have HB1:=aB (HB0.o.call hb1);obtain⟨e0,e1,e2,e3,e4,e5,e6,e7,e8⟩:=nine HX1.o;clear hb1;go_wp2_with fail
    (with_reducible refine(bmust_no _ _).mono ?_)
    rintro e w9 ⟨rfl,rfl⟩;go_wp2;exact⟨rfl,HZ2.o,HB1.o⟩
 ·have gn:(n==[115,117,109])=false:=by simpa[c1m] using hn
  have gn2:(n != [115,117,109])=true:=(by simpa[c1m] using hn);have HN:=aB hn;have HZ2:=aB (show resT (if sm then(0,302) else(if n=gX then 2 else ty,0))=Z from by rw[<-HZ.o,sumT_other hn]);clear HZ hn;have HZ:=HZ2;cases sm
  ·by_cases hm:n=gX
   ·subst hm;go_enter Tryz.func77,Tryz.ntmps77;go_wp2_with fail;refine(HCM.o _ HB0.o).mono ?_;rintro e w1 ⟨rfl,hb1⟩;have HX1:=aB (keep_b HX0.o hb1);have HB1:=aB (HB0.o.call hb1);obtain⟨e0,e1,e2,e3,e4,e5,e6,e7,e8⟩:=nine HX1.o;clear hb1;go_wp2_with fail
    (with_reducible refine(bmust_yes _ _).mono ?_)
    rintro e w9 ⟨rfl,rfl⟩;go_wp2_with fail;refine(HCT.o _ HB1.o).mono ?_;rintro e w2 ⟨rfl,hb2⟩;obtain⟨e0,e1,e2,e3,e4,e5,e6,e7,e8⟩:=nine (keep_b HX1.o hb2);have HB2:=aB (HB1.o.call hb2);clear HB1;have HB1:=HB2;clear hb2;go_wp2_with fail
    (with_reducible refine(bmust_yes _ _).mono ?_)
    rintro e w9 ⟨rfl,rfl⟩;go_wp2;go_ret;exact⟨by rw[<-HZ.o];rfl,HB1.o⟩
   ·have gm:(n==[99,111,117,110,116])=false:=by simpa[gX] using hm
    have HZ3:=aB (show resT (ty,0)=Z from by rw[<-HZ.o];simp only[hm,if_false];rfl);clear HZ hm HZ2;have HZ:=HZ3;go_enter Tryz.func77,Tryz.ntmps77;go_wp2_with fail;refine(HCM.o _ HB0.o).mono ?_;rintro e w1 ⟨rfl,hb1⟩;have HX1:=aB (keep_b HX0.o hb1);have HB1:=aB (HB0.o.call hb1);obtain⟨e0,e1,e2,e3,e4,e5,e6,e7,e8⟩:=nine HX1.o;clear hb1;go_wp2_with fail
    (with_reducible refine(bmust_yes _ _).mono ?_)
    rintro e w9 ⟨rfl,rfl⟩;go_wp2_with fail;refine(HCT.o _ HB1.o).mono ?_;rintro e w2 ⟨rfl,hb2⟩;obtain⟨e0,e1,e2,e3,e4,e5,e6,e7,e8⟩:=nine (keep_b HX1.o hb2);have HB2:=aB (HB1.o.call hb2);clear HB1;have HB1:=HB2;clear hb2;go_wp2_with fail
    (with_reducible refine(bmust_yes _ _).mono ?_)
    rintro e w9 ⟨rfl,rfl⟩;go_wp2;go_ret;exact⟨by rw[<-HZ.o];rfl,HB1.o⟩
  ·skip
   go_enter Tryz.func77,Tryz.ntmps77;go_wp2_with fail;refine(HCM.o _ HB0.o).mono ?_;rintro e w1 ⟨rfl,hb1⟩;have HX1:=aB (keep_b HX0.o hb1);have HB1:=aB (HB0.o.call hb1);obtain⟨e0,e1,e2,e3,e4,e5,e6,e7,e8⟩:=nine HX1.o;clear hb1;go_wp2_with fail
   (with_reducible refine(bmust_yes _ _).mono ?_)
   rintro e w9 ⟨rfl,rfl⟩;go_wp2_with fail;refine(HCT.o _ HB1.o).mono ?_;rintro e w2 ⟨rfl,hb2⟩;obtain⟨e0,e1,e2,e3,e4,e5,e6,e7,e8⟩:=nine (keep_b HX1.o hb2);have HB2:=aB (HB1.o.call hb2);clear HB1;have HB1:=HB2;clear hb2;go_wp2_with fail
   (with_reducible refine(bmust_no _ _).mono ?_)
   rintro e w9 ⟨rfl,rfl⟩;go_wp2;exact⟨rfl,by rw[<-HZ.o];rfl,HB1.o⟩
end
end Go.Proofs.YtkimpcmkminffaaGreatDoor
