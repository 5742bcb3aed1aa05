/- Texts beside the shared ones. -/
import Derived.Test.YtkimpcmkminffaaGreatDoorWX0
namespace Go.Proofs.YtkimpcmkminffaaGreatDoor
open Go.RowKit
open _root_.Array renaming getElem?_eq_some_iff->aC
open _root_.Go.Lib renaming hid->aB
open _root_.List renaming drop_eq_getElem_cons->aZ,drop_length->dO,getElem_mem->dS
open _root_.Nat renaming zero_le->dL
set_option maxRecDepth 100000
set_option maxHeartbeats 8000000
section
theorem c5r(W:World)(o1 o2:Obj):((W.alloc o1).alloc o2).heap[W.heap.size]?=some o1:=(aW _ _ (by simp)).trans (aN _ _)
theorem d0p(W:World)(o1 o2:Obj):((W.alloc o1).alloc o2).heap[W.heap.size+1]?=some o2:=aV _ _ (by simp)
structure c5e(f:FuncId)(g:Ex->Bool)(W:World)(a:Option Addr)(args:List Ex):Prop where
 few:args.length<=1000000
 at8:∀(j:Nat) (h:j<args.length),∃b off s,a=some ⟨b,off,none⟩/\At8 W b (off+j * 8) args[j] s/\gU W s args[j].args
 ih:∀y∈args,∀(W':World) (v:Value),eO W' y v->Calls Tryz.prog f #[v] W' fun e w'=>e= .returned (.bool (g y))/\Bl W' w'
theorem a7c{l:List Ex}{j:Nat}(hj:j<l.length):(l.drop j).all eH=(eH l[j]&&(l.drop (j+1)).all eH):=by
 rw[aZ hj];rfl
theorem d1n{v1 v2 o:Int}{v3 t n:List UInt8}{a:Option Addr}{cap:Nat}{c:Int}{R:Bool}{args:List Ex}{W:World}(HCH:Hid (∀w,Calls Tryz.prog 57 #[V v1 v2 v3] w fun e w'=>e= .returned (.int .i64 c)/\Bl w w'))
  (HA:Hid (c5e 36 eH W a args)) (HN:Hid (¬(c=0/\¬(v1=2/\v2<0)/\args.length=0/\t=[]/\n=[]/\o=0)->R=false)) (HY:Hid ((c=0/\¬(v1=2/\v2<0)/\args.length=0/\t=[]/\n=[]/\o=0)->R=(args.drop 0).all eH)):
  Calls Tryz.prog 36 #[EV 1 (v1,v2,v3) t n o (.slice a args.length cap)] W fun e w'=>e= .returned (.bool R)/\Bl W w':=by
 go_enter Tryz.func36,Tryz.ntmps36;go_wp2_with fail;refine(HCH.o _).mono ?_;rintro e w1 ⟨rfl,hb1⟩;have HX1:=aB ((hb1.block W.heap.size (by simp;omega)).trans (c5r W _ _));have HU1:=aB ((hb1.block (W.heap.size+1) (by simp)).trans (d0p W _ _));have HB1:=aB ((((Bl.refl W).alloc _).alloc _).call hb1);obtain⟨⟨e0,e1,e2,e3,e4,e5,e6,e7⟩,-⟩:=eight HX1.o;obtain⟨⟨i0,i1,i2,i3,i4,i5,i6,i7⟩,-⟩:=eight HU1.o;clear hb1;by_cases hc:c=0
 case neg=>
  have HE:=aB (HN.o fun h=>hc h.1);have hb:(c==0)=false:=(by simpa using hc);have hb':(c != 0)=true:=(by simpa using hc);clear hc;go_wp2
  all_goals
   go_ret;exact⟨by rw[HE.o]<;>rfl,HB1.o⟩
 subst hc;by_cases h1:v1=2/\v2<0
 case pos=>
  have HE:=aB (HN.o fun h=>h.2.1 h1);obtain⟨rfl,h2⟩:=h1;go_wp2
  all_goals
   go_ret;exact⟨by rw[HE.o]<;>rfl,HB1.o⟩
 have h2:(v1==2)=false\/((v1==2)=true/\¬v2<0):=by
  by_cases e:v1=2
  ·exact .inr ⟨by simpa using e,fun h=>h1 ⟨e,h⟩⟩
  ·exact .inl (by simpa using e)
 have H1:=aB h1;clear h1;by_cases hm:(args.length:Int)=0
 case neg=>
  have HE:=aB (HN.o fun h=>hm (by have:=h.2.2.1;omega));have hb:((args.length:Int)==0)=false:=(by simpa using hm);have hb':((args.length:Int) != 0)=true:=(by simpa using hm);clear hm;rcases h2 with h2|⟨h2,h3⟩
  all_goals
   go_wp2
   all_goals
    go_ret;exact⟨by rw[HE.o]<;>rfl,HB1.o⟩
 have HM:=aB (show args.length=0 by omega);have hm1:((args.length:Int)==0)=true:=(by simpa using hm);have hm2:((args.length:Int) != 0)=false:=(by simpa using hm);clear hm;by_cases ht:t=[]
 case neg=>
  have HE:=aB (HN.o fun h=>ht h.2.2.2.1);have hb:(t==[])=false:=(by simpa using ht);have hb':(t != [])=true:=(by simpa using ht);clear ht;rcases h2 with h2|⟨h2,h3⟩
  all_goals
   go_wp2
   all_goals
    go_ret;exact⟨by rw[HE.o]<;>rfl,HB1.o⟩
 subst ht;by_cases hn:n=[]
 case neg=>
  have HE:=aB (HN.o fun h=>hn h.2.2.2.2.1);have hb:(n==[])=false:=(by simpa using hn);have hb':(n != [])=true:=(by simpa using hn);clear hn;rcases h2 with h2|⟨h2,h3⟩
  all_goals
   go_wp2
   all_goals
    go_ret;exact⟨by rw[HE.o]<;>rfl,HB1.o⟩
 subst hn;by_cases ho:o=0
 case neg=>
  have HE:=aB (HN.o fun h=>ho h.2.2.2.2.2);have hb:(o==0)=false:=(by simpa using ho);have hb':(o != 0)=true:=(by simpa using ho);clear ho;rcases h2 with h2|⟨h2,h3⟩
  all_goals
   go_wp2
   all_goals
    go_ret;exact⟨by rw[HE.o]<;>rfl,HB1.o⟩
 subst ho;have HE:=aB (HY.o ⟨rfl,H1.o,HM.o,rfl,rfl,rfl⟩);clear HN HY H1;rcases h2 with h2|⟨h2,h3⟩
 all_goals
  go_wp2_with fail;clear e0 e1 e2 e3 e4 e5 e6 e7 i0 i1 i2 i3 i4 i5 i6 i7 hm1 hm2 h2;go_loopw [6] (fun i wr=>∃j:Nat,j<=args.length/\i= .int .i64 (j:Int)/\Hid (R=(args.drop j).all eH)/\Bl W wr/\Hid (wr.heap[W.heap.size]?=some (.cells #[.int .i64 1,.int .i64 v1,.int .i64 v2,S v3,S [],S [],.int .i64 0,.slice a args.length cap] 47 (0,0)))) (fun i _=>args.length-(intOf i).toNat)
  case atStart=>exact⟨0,dL _,rfl,HE.o,HB1.o,HX1.o⟩
  case round=>
   obtain⟨j,hj,rfl,HD,hB,HX⟩:=hrel;obtain⟨⟨-,-,-,-,-,-,-,c7⟩,-⟩:=eight HX.o;have hfew:=HA.o.few;by_cases hlt:j<args.length
   ·have hltI:(j:Int)<(args.length:Int):=by omega
    obtain⟨b,off,s,rfl,h8,hr⟩:=HA.o.at8 j hlt;have HB:=aB hB;have HY:=aB (HA.o.ih _ (dS hlt));have HDj:=aB (a7c hlt);have HR:=aB (hr.bl hB);obtain⟨e0,e1,e2,e3,e4,e5,e6,e7⟩:=h8.bl hB;clear h8 hr hB;generalize hy:args[j]=y at *;clear hy;obtain⟨k',⟨v1',v2',v3'⟩,t',nm',o',args'⟩:=y;simp only[Ex.k,Ex.v,Ex.t,Ex.n,Ex.o] at e0 e1 e2 e3 e4 e5 e6;go_wp2_with fail;have hRE:eO wr (.mk k' (v1',v2',v3') t' nm' o' args') (EV k' (v1',v2',v3') t' nm' o' s):=⟨s,rfl,HR.o⟩
    (with_reducible refine(HY.o _ _ hRE).mono ?_)
    rintro e w5 ⟨rfl,hb5⟩;have HB5:=aB (HB.o.call hb5);have HX5:=aB ((hb5.block _ (aC.1 HX.o).1).trans HX.o);clear hb5 e0 e1 e2 e3 e4 e5 e6 e7 c7 hRE;cases hs:eH (.mk k' (v1',v2',v3') t' nm' o' args')
    ·have HF:=aB (show R=false from by rw[HD.o,HDj.o,hs];rfl);clear hs;go_wp2;go_ret;exact⟨by rw[HF.o]<;>rfl,HB5.o⟩
    ·have HF:=aB (show R=(args.drop (j+1)).all eH from by rw[HD.o,HDj.o,hs];rfl);clear hs;go_wp2;go_roundw
     case rel=>exact⟨j+1,by omega,by go_num,HF.o,HB5.o,HX5.o⟩
     case measure=>simp[intOf];omega
   ·obtain rfl:j=args.length:=by omega
    have HF:Hid (R=true):=(by show R=true;rw[HD.o,dO];rfl);have HB:=aB hB;clear hB;go_wp2;go_ret;exact⟨by rw[HF.o]<;>rfl,HB.o⟩
theorem d1l{v1 v2 o:Int}{v3 t n:List UInt8}{a:Option Addr}{cap:Nat}{R:Bool}{args:List Ex}{W:World}{on:List UInt8}{om:Nat}{op oq:Int}(HI:Hid (∀w,Calls Tryz.prog 59 #[.int .i64 o] w fun e w'=>e= .returned (.agg #[S on,.int .i64 (om:Int),.int .i64 op,.int .i64 oq])/\Bl w w'))
  (HA:Hid (c5e 36 eH W a args)) (HN:Hid (¬(on≠[]/\args.length=om/\v1=0/\v2=0/\v3=[]/\t=[]/\n=[])->R=false)) (HY:Hid ((on≠[]/\args.length=om/\v1=0/\v2=0/\v3=[]/\t=[]/\n=[])->R=(args.drop 0).all eH)):
  Calls Tryz.prog 36 #[EV 3 (v1,v2,v3) t n o (.slice a args.length cap)] W fun e w'=>e= .returned (.bool R)/\Bl W w':=by
 go_enter Tryz.func36,Tryz.ntmps36;go_wp2_with fail;refine(HI.o _).mono ?_;rintro e w1 ⟨rfl,hb1⟩;have HX1:=aB ((hb1.block W.heap.size (by simp;omega)).trans (c5r W _ _));have HU1:=aB ((hb1.block (W.heap.size+1) (by simp)).trans (d0p W _ _));have HB1:=aB (((((Bl.refl W).alloc _).alloc _).call hb1).alloc (.cells #[S on,.int .i64 (om:Int),.int .i64 op,.int .i64 oq] 110));have hz1:=(aC.1 HX1.o).1;have hz2:=(aC.1 HU1.o).1;have HX2:=aB ((aW w1 (.cells #[S on,.int .i64 (om:Int),.int .i64 op,.int .i64 oq] 110) hz1).trans HX1.o);obtain⟨⟨e0,e1,e2,e3,e4,e5,e6,e7⟩,-⟩:=eight HX1.o;obtain⟨⟨i0,i1,i2,i3,i4,i5,i6,i7⟩,-⟩:=eight HU1.o;clear hb1;by_cases hon:on=[]
 case pos=>
  have HE:=aB (HN.o fun h=>h.1 hon);subst hon;go_wp2
  all_goals
   go_ret;exact⟨by rw[HE.o]<;>rfl,HB1.o⟩
 have HON:=aB hon;have hb:(on==[])=false:=(by simpa using hon);have hb':(on != [])=true:=(by simpa using hon);clear hon;by_cases hm:(args.length:Int)=(om:Int)
 case neg=>
  have HE:=aB (HN.o fun h=>hm (by have:=h.2.1;omega));have hm':¬args.length=om:=(by omega);have hc:(args.length==om)=false:=(by simpa using hm');have hc':(args.length != om)=true:=(by simpa using hm');have hd:decide (args.length=om)=false:=(by simpa using hm');have hd':decide ((args.length:Int)=(om:Int))=false:=(by simpa using hm);clear hm';have hb:((args.length:Int)==(om:Int))=false:=(by simpa using hm);have hb':((args.length:Int) != (om:Int))=true:=(by simpa using hm);clear hm;go_wp2
  all_goals
   go_ret;exact⟨by rw[HE.o]<;>rfl,HB1.o⟩
 obtain rfl:om=args.length:=(by omega);clear hm;by_cases hv1:v1=0
 case neg=>
  have HE:=aB (HN.o fun h=>hv1 h.2.2.1);have hb:(v1==0)=false:=(by simpa using hv1);have hb':(v1 != 0)=true:=(by simpa using hv1);clear hv1;go_wp2
  all_goals
   go_ret;exact⟨by rw[HE.o]<;>rfl,HB1.o⟩
 subst hv1;by_cases hv2:v2=0
 case neg=>
  have HE:=aB (HN.o fun h=>hv2 h.2.2.2.1);have hb:(v2==0)=false:=(by simpa using hv2);have hb':(v2 != 0)=true:=(by simpa using hv2);clear hv2;go_wp2
  all_goals
   go_ret;exact⟨by rw[HE.o]<;>rfl,HB1.o⟩
 subst hv2;by_cases hv3:v3=[]
 case neg=>
  have HE:=aB (HN.o fun h=>hv3 h.2.2.2.2.1);have hb:(v3==[])=false:=(by simpa using hv3);have hb':(v3 != [])=true:=(by simpa using hv3);clear hv3;go_wp2
  all_goals
   go_ret;exact⟨by rw[HE.o]<;>rfl,HB1.o⟩
 subst hv3;by_cases ht:t=[]
 case neg=>
  have HE:=aB (HN.o fun h=>ht h.2.2.2.2.2.1);have hb:(t==[])=false:=(by simpa using ht);have hb':(t != [])=true:=(by simpa using ht);clear ht;go_wp2
  all_goals
   go_ret;exact⟨by rw[HE.o]<;>rfl,HB1.o⟩
 subst ht;by_cases hn:n=[]
 case neg=>
  have HE:=aB (HN.o fun h=>hn h.2.2.2.2.2.2);have hb:(n==[])=false:=(by simpa using hn);have hb':(n != [])=true:=(by simpa using hn);clear hn;go_wp2
  all_goals
   go_ret;exact⟨by rw[HE.o]<;>rfl,HB1.o⟩
 subst hn;have HE:=aB (HY.o ⟨HON.o,rfl,rfl,rfl,rfl,rfl,rfl⟩);clear HN HY;go_wp2_with fail;clear e0 e1 e2 e3 e4 e5 e6 e7 i0 i1 i2 i3 i4 i5 i6 i7 hb hb';go_loopw [6] (fun i wr=>∃j:Nat,j<=args.length/\i= .int .i64 (j:Int)/\Hid (R=(args.drop j).all eH)/\Bl W wr/\Hid (wr.heap[W.heap.size]?=some (.cells #[.int .i64 3,.int .i64 0,.int .i64 0,S [],S [],S [],.int .i64 o,.slice a args.length cap] 47 (0,0)))) (fun i _=>args.length-(intOf i).toNat)
 case atStart=>exact⟨0,dL _,rfl,HE.o,HB1.o,HX2.o⟩
 case round=>
  obtain⟨j,hj,rfl,HD,hB,HX⟩:=hrel;obtain⟨⟨-,-,-,-,-,-,-,c7⟩,-⟩:=eight HX.o;have hfew:=HA.o.few;by_cases hlt:j<args.length
  ·have hltI:(j:Int)<(args.length:Int):=by omega
   obtain⟨b,off,s,rfl,h8,hr⟩:=HA.o.at8 j hlt;have HB:=aB hB;have HY:=aB (HA.o.ih _ (dS hlt));have HDj:=aB (a7c hlt);have HR:=aB (hr.bl hB);obtain⟨e0,e1,e2,e3,e4,e5,e6,e7⟩:=h8.bl hB;clear h8 hr hB;generalize hy:args[j]=y at *;clear hy;obtain⟨k',⟨v1',v2',v3'⟩,t',nm',o',args'⟩:=y;simp only[Ex.k,Ex.v,Ex.t,Ex.n,Ex.o] at e0 e1 e2 e3 e4 e5 e6;go_wp2_with fail;have hRE:eO wr (.mk k' (v1',v2',v3') t' nm' o' args') (EV k' (v1',v2',v3') t' nm' o' s):=⟨s,rfl,HR.o⟩
   (with_reducible refine(HY.o _ _ hRE).mono ?_)
   rintro e w5 ⟨rfl,hb5⟩;have HB5:=aB (HB.o.call hb5);have HX5:=aB ((hb5.block _ (aC.1 HX.o).1).trans HX.o);clear hb5 e0 e1 e2 e3 e4 e5 e6 e7 c7 hRE;cases hs:eH (.mk k' (v1',v2',v3') t' nm' o' args')
   ·have HF:=aB (show R=false from by rw[HD.o,HDj.o,hs];rfl);clear hs;go_wp2;go_ret;exact⟨by rw[HF.o]<;>rfl,HB5.o⟩
   ·have HF:=aB (show R=(args.drop (j+1)).all eH from by rw[HD.o,HDj.o,hs];rfl);clear hs;go_wp2;go_roundw
    case rel=>exact⟨j+1,by omega,by go_num,HF.o,HB5.o,HX5.o⟩
    case measure=>simp[intOf];omega
  ·obtain rfl:j=args.length:=by omega
   have HF:Hid (R=true):=(by show R=true;rw[HD.o,dO];rfl);have HB:=aB hB;clear hB;go_wp2;go_ret;exact⟨by rw[HF.o]<;>rfl,HB.o⟩
theorem d1k{v1 v2 o:Int}{v3 t n:List UInt8}{a:Option Addr}{cap:Nat}{R:Bool}{args:List Ex}{W:World}
  (HA:Hid (c5e 36 eH W a args)) (HN:Hid (¬(args.length≠0/\n=[]/\v1=0/\v2=0/\v3=[]/\t=[]/\o=0)->R=false)) (HY:Hid ((args.length≠0/\n=[]/\v1=0/\v2=0/\v3=[]/\t=[]/\o=0)->R=(args.drop 0).all eH)):
  Calls Tryz.prog 36 #[EV 4 (v1,v2,v3) t n o (.slice a args.length cap)] W fun e w'=>e= .returned (.bool R)/\Bl W w':=by
 by_cases hm:(args.length:Int)=0
 case pos=>
  have HE:=aB (HN.o fun h=>h.1 (by omega));have hm1:((args.length:Int)==0)=true:=(by simpa using hm);have hm2:((args.length:Int) != 0)=false:=(by simpa using hm);clear hm;go_enter Tryz.func36,Tryz.ntmps36;go_wp2
  all_goals
   go_ret;exact⟨by rw[HE.o]<;>rfl,((Bl.refl W).alloc _).alloc _⟩
 have HM:=aB (show args.length≠0 by omega);have hm1:((args.length:Int)==0)=false:=(by simpa using hm);have hm2:((args.length:Int) != 0)=true:=(by simpa using hm);clear hm;by_cases hv1:v1=0
 case neg=>
  have HE:=aB (HN.o fun h=>hv1 h.2.2.1);have hb:(v1==0)=false:=(by simpa using hv1);have hb':(v1 != 0)=true:=(by simpa using hv1);clear hv1;go_enter Tryz.func36,Tryz.ntmps36;go_wp2
  all_goals
   go_ret;exact⟨by rw[HE.o]<;>rfl,((Bl.refl W).alloc _).alloc _⟩
 subst hv1;by_cases hv2:v2=0
 case neg=>
  have HE:=aB (HN.o fun h=>hv2 h.2.2.2.1);have hb:(v2==0)=false:=(by simpa using hv2);have hb':(v2 != 0)=true:=(by simpa using hv2);clear hv2;go_enter Tryz.func36,Tryz.ntmps36;go_wp2
  all_goals
   go_ret;exact⟨by rw[HE.o]<;>rfl,((Bl.refl W).alloc _).alloc _⟩
 subst hv2;by_cases hv3:v3=[]
 case neg=>
  have HE:=aB (HN.o fun h=>hv3 h.2.2.2.2.1);have hb:(v3==[])=false:=(by simpa using hv3);have hb':(v3 != [])=true:=(by simpa using hv3);clear hv3;go_enter Tryz.func36,Tryz.ntmps36;go_wp2
  all_goals
   go_ret;exact⟨by rw[HE.o]<;>rfl,((Bl.refl W).alloc _).alloc _⟩
 subst hv3;by_cases ht:t=[]
 case neg=>
  have HE:=aB (HN.o fun h=>ht h.2.2.2.2.2.1);have hb:(t==[])=false:=(by simpa using ht);have hb':(t != [])=true:=(by simpa using ht);clear ht;go_enter Tryz.func36,Tryz.ntmps36;go_wp2
  all_goals
   go_ret;exact⟨by rw[HE.o]<;>rfl,((Bl.refl W).alloc _).alloc _⟩
 subst ht;by_cases ho:o=0
 case neg=>
  have HE:=aB (HN.o fun h=>ho h.2.2.2.2.2.2);have hb:(o==0)=false:=(by simpa using ho);have hb':(o != 0)=true:=(by simpa using ho);clear ho;go_enter Tryz.func36,Tryz.ntmps36;go_wp2
  all_goals
   go_ret;exact⟨by rw[HE.o]<;>rfl,((Bl.refl W).alloc _).alloc _⟩
 subst ho;by_cases hn:n=[]
 case neg=>
  have HE:=aB (HN.o fun h=>hn h.2.1);have hb:(n==[])=false:=(by simpa using hn);have hb':(n != [])=true:=(by simpa using hn);clear hn;go_enter Tryz.func36,Tryz.ntmps36;go_wp2
  all_goals
   go_ret;exact⟨by rw[HE.o]<;>rfl,((Bl.refl W).alloc _).alloc _⟩
 subst hn;have HE:=aB (HY.o ⟨HM.o,rfl,rfl,rfl,rfl,rfl,rfl⟩);clear HN HY;go_enter Tryz.func36,Tryz.ntmps36;go_wp2_with fail;clear hm1 hm2;go_loopw [6] (fun i wr=>∃j:Nat,j<=args.length/\i= .int .i64 (j:Int)/\Hid (R=(args.drop j).all eH)/\Bl W wr/\Hid (wr.heap[W.heap.size]?=some (.cells #[.int .i64 4,.int .i64 0,.int .i64 0,S [],S [],S [],.int .i64 0,.slice a args.length cap] 47 (0,0)))) (fun i _=>args.length-(intOf i).toNat)
 case atStart=>exact⟨0,dL _,rfl,HE.o,(((Bl.refl W).alloc _).alloc _),(c5r W _ _)⟩
 case round=>
  obtain⟨j,hj,rfl,HD,hB,HX⟩:=hrel;obtain⟨⟨-,-,-,-,-,-,-,c7⟩,-⟩:=eight HX.o;have hfew:=HA.o.few;by_cases hlt:j<args.length
  ·have hltI:(j:Int)<(args.length:Int):=by omega
   obtain⟨b,off,s,rfl,h8,hr⟩:=HA.o.at8 j hlt;have HB:=aB hB;have HY:=aB (HA.o.ih _ (dS hlt));have HDj:=aB (a7c hlt);have HR:=aB (hr.bl hB);obtain⟨e0,e1,e2,e3,e4,e5,e6,e7⟩:=h8.bl hB;clear h8 hr hB;generalize hy:args[j]=y at *;clear hy;obtain⟨k',⟨v1',v2',v3'⟩,t',nm',o',args'⟩:=y;simp only[Ex.k,Ex.v,Ex.t,Ex.n,Ex.o] at e0 e1 e2 e3 e4 e5 e6;go_wp2_with fail;have hRE:eO wr (.mk k' (v1',v2',v3') t' nm' o' args') (EV k' (v1',v2',v3') t' nm' o' s):=⟨s,rfl,HR.o⟩
   (with_reducible refine(HY.o _ _ hRE).mono ?_)
   rintro e w5 ⟨rfl,hb5⟩;have HB5:=aB (HB.o.call hb5);have HX5:=aB ((hb5.block _ (aC.1 HX.o).1).trans HX.o);clear hb5 e0 e1 e2 e3 e4 e5 e6 e7 c7 hRE;cases hs:eH (.mk k' (v1',v2',v3') t' nm' o' args')
   ·have HF:=aB (show R=false from by rw[HD.o,HDj.o,hs];rfl);clear hs;go_wp2;go_ret;exact⟨by rw[HF.o]<;>rfl,HB5.o⟩
   ·have HF:=aB (show R=(args.drop (j+1)).all eH from by rw[HD.o,HDj.o,hs];rfl);clear hs;go_wp2;go_roundw
    case rel=>exact⟨j+1,by omega,by go_num,HF.o,HB5.o,HX5.o⟩
    case measure=>simp[intOf];omega
  ·obtain rfl:j=args.length:=by omega
   have HF:Hid (R=true):=(by show R=true;rw[HD.o,dO];rfl);have HB:=aB hB;clear hB;go_wp2;go_ret;exact⟨by rw[HF.o]<;>rfl,HB.o⟩
theorem d0z{v1 v2 o:Int}{v3 t:List UInt8}{a:Option Addr}{cap:Nat}{R:Bool}{args:List Ex}{W:World}
  (HA:Hid (c5e 36 eH W a args)) (HN:Hid (¬(args.length<=1/\v1=0/\v2=0/\v3=[]/\t=[]/\o=0)->R=false)) (HY:Hid ((args.length<=1/\v1=0/\v2=0/\v3=[]/\t=[]/\o=0)->R=(args.drop 0).all eH)):
  Calls Tryz.prog 36 #[EV 5 (v1,v2,v3) t [99,111,117,110,116] o (.slice a args.length cap)] W fun e w'=>e= .returned (.bool R)/\Bl W w':=by
 by_cases hm:1<(args.length:Int)
 case pos=>
  have HE:=aB (HN.o fun h=>by have:=h.1;omega);go_enter Tryz.func36,Tryz.ntmps36;go_wp2
  all_goals
   go_ret;exact⟨by rw[HE.o]<;>rfl,((Bl.refl W).alloc _).alloc _⟩
 have hm3:¬1<(args.length:Int):=hm;have H5:=aB (show args.length<=1 by omega);by_cases h0:(args.length:Int)=0
 ·have hm1:((args.length:Int)==0)=true:=by simpa using h0
  have hm2:((args.length:Int) != 0)=false:=(by simpa using h0);clear h0 hm;by_cases hv1:v1=0
  case neg=>
   have HE:=aB (HN.o fun h=>hv1 h.2.1);have hb:(v1==0)=false:=(by simpa using hv1);have hb':(v1 != 0)=true:=(by simpa using hv1);clear hv1;go_enter Tryz.func36,Tryz.ntmps36;go_wp2
   all_goals
    go_ret;exact⟨by rw[HE.o]<;>rfl,((Bl.refl W).alloc _).alloc _⟩
  subst hv1;by_cases hv2:v2=0
  case neg=>
   have HE:=aB (HN.o fun h=>hv2 h.2.2.1);have hb:(v2==0)=false:=(by simpa using hv2);have hb':(v2 != 0)=true:=(by simpa using hv2);clear hv2;go_enter Tryz.func36,Tryz.ntmps36;go_wp2
   all_goals
    go_ret;exact⟨by rw[HE.o]<;>rfl,((Bl.refl W).alloc _).alloc _⟩
  subst hv2;by_cases hv3:v3=[]
  case neg=>
   have HE:=aB (HN.o fun h=>hv3 h.2.2.2.1);have hb:(v3==[])=false:=(by simpa using hv3);have hb':(v3 != [])=true:=(by simpa using hv3);clear hv3;go_enter Tryz.func36,Tryz.ntmps36;go_wp2
   all_goals
    go_ret;exact⟨by rw[HE.o]<;>rfl,((Bl.refl W).alloc _).alloc _⟩
  subst hv3;by_cases ht:t=[]
  case neg=>
   have HE:=aB (HN.o fun h=>ht h.2.2.2.2.1);have hb:(t==[])=false:=(by simpa using ht);have hb':(t != [])=true:=(by simpa using ht);clear ht;go_enter Tryz.func36,Tryz.ntmps36;go_wp2
   all_goals
    go_ret;exact⟨by rw[HE.o]<;>rfl,((Bl.refl W).alloc _).alloc _⟩
  subst ht;by_cases ho:o=0
  case neg=>
   have HE:=aB (HN.o fun h=>ho h.2.2.2.2.2);have hb:(o==0)=false:=(by simpa using ho);have hb':(o != 0)=true:=(by simpa using ho);clear ho;go_enter Tryz.func36,Tryz.ntmps36;go_wp2
   all_goals
    go_ret;exact⟨by rw[HE.o]<;>rfl,((Bl.refl W).alloc _).alloc _⟩
  subst ho;have HE:=aB (HY.o ⟨H5.o,rfl,rfl,rfl,rfl,rfl⟩);clear HN HY;go_enter Tryz.func36,Tryz.ntmps36;go_wp2_with fail;clear hm1 hm2 hm3;go_loopw [6] (fun i wr=>∃j:Nat,j<=args.length/\i= .int .i64 (j:Int)/\Hid (R=(args.drop j).all eH)/\Bl W wr/\Hid (wr.heap[W.heap.size]?=some (.cells #[.int .i64 5,.int .i64 0,.int .i64 0,S [],S [],S [99,111,117,110,116],.int .i64 0,.slice a args.length cap] 47 (0,0)))) (fun i _=>args.length-(intOf i).toNat)
  case atStart=>exact⟨0,dL _,rfl,HE.o,(((Bl.refl W).alloc _).alloc _),(c5r W _ _)⟩
  case round=>
   obtain⟨j,hj,rfl,HD,hB,HX⟩:=hrel;obtain⟨⟨-,-,-,-,-,-,-,c7⟩,-⟩:=eight HX.o;have hfew:=HA.o.few;by_cases hlt:j<args.length
   ·have hltI:(j:Int)<(args.length:Int):=by omega
    obtain⟨b,off,s,rfl,h8,hr⟩:=HA.o.at8 j hlt;have HB:=aB hB;have HY:=aB (HA.o.ih _ (dS hlt));have HDj:=aB (a7c hlt);have HR:=aB (hr.bl hB);obtain⟨e0,e1,e2,e3,e4,e5,e6,e7⟩:=h8.bl hB;clear h8 hr hB;generalize hy:args[j]=y at *;clear hy;obtain⟨k',⟨v1',v2',v3'⟩,t',nm',o',args'⟩:=y;simp only[Ex.k,Ex.v,Ex.t,Ex.n,Ex.o] at e0 e1 e2 e3 e4 e5 e6;go_wp2_with fail;have hRE:eO wr (.mk k' (v1',v2',v3') t' nm' o' args') (EV k' (v1',v2',v3') t' nm' o' s):=⟨s,rfl,HR.o⟩
    (with_reducible refine(HY.o _ _ hRE).mono ?_)
    rintro e w5 ⟨rfl,hb5⟩;have HB5:=aB (HB.o.call hb5);have HX5:=aB ((hb5.block _ (aC.1 HX.o).1).trans HX.o);clear hb5 e0 e1 e2 e3 e4 e5 e6 e7 c7 hRE;cases hs:eH (.mk k' (v1',v2',v3') t' nm' o' args')
    ·have HF:=aB (show R=false from by rw[HD.o,HDj.o,hs];rfl);clear hs;go_wp2;go_ret;exact⟨by rw[HF.o]<;>rfl,HB5.o⟩
    ·have HF:=aB (show R=(args.drop (j+1)).all eH from by rw[HD.o,HDj.o,hs];rfl);clear hs;go_wp2;go_roundw
     case rel=>exact⟨j+1,by omega,by go_num,HF.o,HB5.o,HX5.o⟩
     case measure=>simp[intOf];omega
   ·obtain rfl:j=args.length:=by omega
    have HF:Hid (R=true):=(by show R=true;rw[HD.o,dO];rfl);have HB:=aB hB;clear hB;go_wp2;go_ret;exact⟨by rw[HF.o]<;>rfl,HB.o⟩
 ·have hm1:((args.length:Int)==0)=false:=by simpa using h0
  have hm2:((args.length:Int) != 0)=true:=(by simpa using h0);clear h0 hm;by_cases hv1:v1=0
  case neg=>
   have HE:=aB (HN.o fun h=>hv1 h.2.1);have hb:(v1==0)=false:=(by simpa using hv1);have hb':(v1 != 0)=true:=(by simpa using hv1);clear hv1;go_enter Tryz.func36,Tryz.ntmps36;go_wp2
   all_goals
    go_ret;exact⟨by rw[HE.o]<;>rfl,((Bl.refl W).alloc _).alloc _⟩
  subst hv1;by_cases hv2:v2=0
  case neg=>
   have HE:=aB (HN.o fun h=>hv2 h.2.2.1);have hb:(v2==0)=false:=(by simpa using hv2);have hb':(v2 != 0)=true:=(by simpa using hv2);clear hv2;go_enter Tryz.func36,Tryz.ntmps36;go_wp2
   all_goals
    go_ret;exact⟨by rw[HE.o]<;>rfl,((Bl.refl W).alloc _).alloc _⟩
  subst hv2;by_cases hv3:v3=[]
  case neg=>
   have HE:=aB (HN.o fun h=>hv3 h.2.2.2.1);have hb:(v3==[])=false:=(by simpa using hv3);have hb':(v3 != [])=true:=(by simpa using hv3);clear hv3;go_enter Tryz.func36,Tryz.ntmps36;go_wp2
   all_goals
    go_ret;exact⟨by rw[HE.o]<;>rfl,((Bl.refl W).alloc _).alloc _⟩
  subst hv3;by_cases ht:t=[]
  case neg=>
   have HE:=aB (HN.o fun h=>ht h.2.2.2.2.1);have hb:(t==[])=false:=(by simpa using ht);have hb':(t != [])=true:=(by simpa using ht);clear ht;go_enter Tryz.func36,Tryz.ntmps36;go_wp2
   all_goals
    go_ret;exact⟨by rw[HE.o]<;>rfl,((Bl.refl W).alloc _).alloc _⟩
  subst ht;by_cases ho:o=0
  case neg=>
   have HE:=aB (HN.o fun h=>ho h.2.2.2.2.2);have hb:(o==0)=false:=(by simpa using ho);have hb':(o != 0)=true:=(by simpa using ho);clear ho;go_enter Tryz.func36,Tryz.ntmps36;go_wp2
   all_goals
    go_ret;exact⟨by rw[HE.o]<;>rfl,((Bl.refl W).alloc _).alloc _⟩
  subst ho;have HE:=aB (HY.o ⟨H5.o,rfl,rfl,rfl,rfl,rfl⟩);clear HN HY;go_enter Tryz.func36,Tryz.ntmps36;go_wp2_with fail;clear hm1 hm2 hm3;go_loopw [6] (fun i wr=>∃j:Nat,j<=args.length/\i= .int .i64 (j:Int)/\Hid (R=(args.drop j).all eH)/\Bl W wr/\Hid (wr.heap[W.heap.size]?=some (.cells #[.int .i64 5,.int .i64 0,.int .i64 0,S [],S [],S [99,111,117,110,116],.int .i64 0,.slice a args.length cap] 47 (0,0)))) (fun i _=>args.length-(intOf i).toNat)
  case atStart=>exact⟨0,dL _,rfl,HE.o,(((Bl.refl W).alloc _).alloc _),(c5r W _ _)⟩
  case round=>
   obtain⟨j,hj,rfl,HD,hB,HX⟩:=hrel;obtain⟨⟨-,-,-,-,-,-,-,c7⟩,-⟩:=eight HX.o;have hfew:=HA.o.few;by_cases hlt:j<args.length
   ·have hltI:(j:Int)<(args.length:Int):=by omega
    obtain⟨b,off,s,rfl,h8,hr⟩:=HA.o.at8 j hlt;have HB:=aB hB;have HY:=aB (HA.o.ih _ (dS hlt));have HDj:=aB (a7c hlt);have HR:=aB (hr.bl hB);obtain⟨e0,e1,e2,e3,e4,e5,e6,e7⟩:=h8.bl hB;clear h8 hr hB;generalize hy:args[j]=y at *;clear hy;obtain⟨k',⟨v1',v2',v3'⟩,t',nm',o',args'⟩:=y;simp only[Ex.k,Ex.v,Ex.t,Ex.n,Ex.o] at e0 e1 e2 e3 e4 e5 e6;go_wp2_with fail;have hRE:eO wr (.mk k' (v1',v2',v3') t' nm' o' args') (EV k' (v1',v2',v3') t' nm' o' s):=⟨s,rfl,HR.o⟩
    (with_reducible refine(HY.o _ _ hRE).mono ?_)
    rintro e w5 ⟨rfl,hb5⟩;have HB5:=aB (HB.o.call hb5);have HX5:=aB ((hb5.block _ (aC.1 HX.o).1).trans HX.o);clear hb5 e0 e1 e2 e3 e4 e5 e6 e7 c7 hRE;cases hs:eH (.mk k' (v1',v2',v3') t' nm' o' args')
    ·have HF:=aB (show R=false from by rw[HD.o,HDj.o,hs];rfl);clear hs;go_wp2;go_ret;exact⟨by rw[HF.o]<;>rfl,HB5.o⟩
    ·have HF:=aB (show R=(args.drop (j+1)).all eH from by rw[HD.o,HDj.o,hs];rfl);clear hs;go_wp2;go_roundw
     case rel=>exact⟨j+1,by omega,by go_num,HF.o,HB5.o,HX5.o⟩
     case measure=>simp[intOf];omega
   ·obtain rfl:j=args.length:=by omega
    have HF:Hid (R=true):=(by show R=true;rw[HD.o,dO];rfl);have HB:=aB hB;clear hB;go_wp2;go_ret;exact⟨by rw[HF.o]<;>rfl,HB.o⟩
theorem d0x{v1 v2 o:Int}{v3 t n:List UInt8}{a:Option Addr}{cap:Nat}{R:Bool}{args:List Ex}{W:World}(hs:n=[115,117,109]\/n=[109,105,110]\/n=[109,97,120])
  (HA:Hid (c5e 36 eH W a args)) (HN:Hid (¬(args.length=1/\v1=0/\v2=0/\v3=[]/\t=[]/\o=0)->R=false)) (HY:Hid ((args.length=1/\v1=0/\v2=0/\v3=[]/\t=[]/\o=0)->R=(args.drop 0).all eH)):
  Calls Tryz.prog 36 #[EV 5 (v1,v2,v3) t n o (.slice a args.length cap)] W fun e w'=>e= .returned (.bool R)/\Bl W w':=by
 have h5:args.length=1\/args.length≠1:=(by omega);rcases hs with rfl|rfl|rfl
 ·clear h5;by_cases hm:1<(args.length:Int)
  case pos=>
   have HE:=aB (HN.o fun h=>by have:=h.1;omega);go_enter Tryz.func36,Tryz.ntmps36;go_wp2
   all_goals
    go_ret;exact⟨by rw[HE.o]<;>rfl,((Bl.refl W).alloc _).alloc _⟩
  have hm3:¬1<(args.length:Int):=hm;by_cases h0:(args.length:Int)=0
  case pos=>
   have HE:=aB (HN.o fun h=>by have:=h.1;omega);have hm1:((args.length:Int)==0)=true:=(by simpa using h0);have hm2:((args.length:Int) != 0)=false:=(by simpa using h0);clear h0;go_enter Tryz.func36,Tryz.ntmps36;go_wp2
   all_goals
    go_ret;exact⟨by rw[HE.o]<;>rfl,((Bl.refl W).alloc _).alloc _⟩
  have H5:=aB (show args.length=1 by omega);have hm1:((args.length:Int)==0)=false:=(by simpa using h0);have hm2:((args.length:Int) != 0)=true:=(by simpa using h0);clear h0 hm;by_cases hv1:v1=0
  case neg=>
   have HE:=aB (HN.o fun h=>hv1 h.2.1);have hb:(v1==0)=false:=(by simpa using hv1);have hb':(v1 != 0)=true:=(by simpa using hv1);clear hv1;go_enter Tryz.func36,Tryz.ntmps36;go_wp2
   all_goals
    go_ret;exact⟨by rw[HE.o]<;>rfl,((Bl.refl W).alloc _).alloc _⟩
  subst hv1;by_cases hv2:v2=0
  case neg=>
   have HE:=aB (HN.o fun h=>hv2 h.2.2.1);have hb:(v2==0)=false:=(by simpa using hv2);have hb':(v2 != 0)=true:=(by simpa using hv2);clear hv2;go_enter Tryz.func36,Tryz.ntmps36;go_wp2
   all_goals
    go_ret;exact⟨by rw[HE.o]<;>rfl,((Bl.refl W).alloc _).alloc _⟩
  subst hv2;by_cases hv3:v3=[]
  case neg=>
   have HE:=aB (HN.o fun h=>hv3 h.2.2.2.1);have hb:(v3==[])=false:=(by simpa using hv3);have hb':(v3 != [])=true:=(by simpa using hv3);clear hv3;go_enter Tryz.func36,Tryz.ntmps36;go_wp2
   all_goals
    go_ret;exact⟨by rw[HE.o]<;>rfl,((Bl.refl W).alloc _).alloc _⟩
  subst hv3;by_cases ht:t=[]
  case neg=>
   have HE:=aB (HN.o fun h=>ht h.2.2.2.2.1);have hb:(t==[])=false:=(by simpa using ht);have hb':(t != [])=true:=(by simpa using ht);clear ht;go_enter Tryz.func36,Tryz.ntmps36;go_wp2
   all_goals
    go_ret;exact⟨by rw[HE.o]<;>rfl,((Bl.refl W).alloc _).alloc _⟩
  subst ht;by_cases ho:o=0
  case neg=>
   have HE:=aB (HN.o fun h=>ho h.2.2.2.2.2);have hb:(o==0)=false:=(by simpa using ho);have hb':(o != 0)=true:=(by simpa using ho);clear ho;go_enter Tryz.func36,Tryz.ntmps36;go_wp2
   all_goals
    go_ret;exact⟨by rw[HE.o]<;>rfl,((Bl.refl W).alloc _).alloc _⟩
  subst ho;have HE:=aB (HY.o ⟨H5.o,rfl,rfl,rfl,rfl,rfl⟩);clear HN HY;go_enter Tryz.func36,Tryz.ntmps36;go_wp2_with fail;clear hm1 hm2 hm3;go_loopw [6] (fun i wr=>∃j:Nat,j<=args.length/\i= .int .i64 (j:Int)/\Hid (R=(args.drop j).all eH)/\Bl W wr/\Hid (wr.heap[W.heap.size]?=some (.cells #[.int .i64 5,.int .i64 0,.int .i64 0,S [],S [],S [115,117,109],.int .i64 0,.slice a args.length cap] 47 (0,0)))) (fun i _=>args.length-(intOf i).toNat)
  case atStart=>exact⟨0,dL _,rfl,HE.o,(((Bl.refl W).alloc _).alloc _),(c5r W _ _)⟩
  case round=>
   obtain⟨j,hj,rfl,HD,hB,HX⟩:=hrel;obtain⟨⟨-,-,-,-,-,-,-,c7⟩,-⟩:=eight HX.o;have hfew:=HA.o.few;by_cases hlt:j<args.length
   ·have hltI:(j:Int)<(args.length:Int):=by omega
    obtain⟨b,off,s,rfl,h8,hr⟩:=HA.o.at8 j hlt;have HB:=aB hB;have HY:=aB (HA.o.ih _ (dS hlt));have HDj:=aB (a7c hlt);have HR:=aB (hr.bl hB);obtain⟨e0,e1,e2,e3,e4,e5,e6,e7⟩:=h8.bl hB;clear h8 hr hB;generalize hy:args[j]=y at *;clear hy;obtain⟨k',⟨v1',v2',v3'⟩,t',nm',o',args'⟩:=y;simp only[Ex.k,Ex.v,Ex.t,Ex.n,Ex.o] at e0 e1 e2 e3 e4 e5 e6;go_wp2_with fail;have hRE:eO wr (.mk k' (v1',v2',v3') t' nm' o' args') (EV k' (v1',v2',v3') t' nm' o' s):=⟨s,rfl,HR.o⟩
    (with_reducible refine(HY.o _ _ hRE).mono ?_)
    rintro e w5 ⟨rfl,hb5⟩;have HB5:=aB (HB.o.call hb5);have HX5:=aB ((hb5.block _ (aC.1 HX.o).1).trans HX.o);clear hb5 e0 e1 e2 e3 e4 e5 e6 e7 c7 hRE;cases hs:eH (.mk k' (v1',v2',v3') t' nm' o' args')
    ·have HF:=aB (show R=false from by rw[HD.o,HDj.o,hs];rfl);clear hs;go_wp2;go_ret;exact⟨by rw[HF.o]<;>rfl,HB5.o⟩
    ·have HF:=aB (show R=(args.drop (j+1)).all eH from by rw[HD.o,HDj.o,hs];rfl);clear hs;go_wp2;go_roundw
     case rel=>exact⟨j+1,by omega,by go_num,HF.o,HB5.o,HX5.o⟩
     case measure=>simp[intOf];omega
   ·obtain rfl:j=args.length:=by omega
    have HF:Hid (R=true):=(by show R=true;rw[HD.o,dO];rfl);have HB:=aB hB;clear hB;go_wp2;go_ret;exact⟨by rw[HF.o]<;>rfl,HB.o⟩
 ·clear h5;by_cases hm:1<(args.length:Int)
  case pos=>
   have HE:=aB (HN.o fun h=>by have:=h.1;omega);go_enter Tryz.func36,Tryz.ntmps36;go_wp2
   all_goals
    go_ret;exact⟨by rw[HE.o]<;>rfl,((Bl.refl W).alloc _).alloc _⟩
  have hm3:¬1<(args.length:Int):=hm;by_cases h0:(args.length:Int)=0
  case pos=>
   have HE:=aB (HN.o fun h=>by have:=h.1;omega);have hm1:((args.length:Int)==0)=true:=(by simpa using h0);have hm2:((args.length:Int) != 0)=false:=(by simpa using h0);clear h0;go_enter Tryz.func36,Tryz.ntmps36;go_wp2
   all_goals
    go_ret;exact⟨by rw[HE.o]<;>rfl,((Bl.refl W).alloc _).alloc _⟩
  have H5:=aB (show args.length=1 by omega);have hm1:((args.length:Int)==0)=false:=(by simpa using h0);have hm2:((args.length:Int) != 0)=true:=(by simpa using h0);clear h0 hm;by_cases hv1:v1=0
  case neg=>
   have HE:=aB (HN.o fun h=>hv1 h.2.1);have hb:(v1==0)=false:=(by simpa using hv1);have hb':(v1 != 0)=true:=(by simpa using hv1);clear hv1;go_enter Tryz.func36,Tryz.ntmps36;go_wp2
   all_goals
    go_ret;exact⟨by rw[HE.o]<;>rfl,((Bl.refl W).alloc _).alloc _⟩
  subst hv1;by_cases hv2:v2=0
  case neg=>
   have HE:=aB (HN.o fun h=>hv2 h.2.2.1);have hb:(v2==0)=false:=(by simpa using hv2);have hb':(v2 != 0)=true:=(by simpa using hv2);clear hv2;go_enter Tryz.func36,Tryz.ntmps36;go_wp2
   all_goals
    go_ret;exact⟨by rw[HE.o]<;>rfl,((Bl.refl W).alloc _).alloc _⟩
  subst hv2;by_cases hv3:v3=[]
  case neg=>
   have HE:=aB (HN.o fun h=>hv3 h.2.2.2.1);have hb:(v3==[])=false:=(by simpa using hv3);have hb':(v3 != [])=true:=(by simpa using hv3);clear hv3;go_enter Tryz.func36,Tryz.ntmps36;go_wp2
   all_goals
    go_ret;exact⟨by rw[HE.o]<;>rfl,((Bl.refl W).alloc _).alloc _⟩
  subst hv3;by_cases ht:t=[]
  case neg=>
   have HE:=aB (HN.o fun h=>ht h.2.2.2.2.1);have hb:(t==[])=false:=(by simpa using ht);have hb':(t != [])=true:=(by simpa using ht);clear ht;go_enter Tryz.func36,Tryz.ntmps36;go_wp2
   all_goals
    go_ret;exact⟨by rw[HE.o]<;>rfl,((Bl.refl W).alloc _).alloc _⟩
  subst ht;by_cases ho:o=0
  case neg=>
   have HE:=aB (HN.o fun h=>ho h.2.2.2.2.2);have hb:(o==0)=false:=(by simpa using ho);have hb':(o != 0)=true:=(by simpa using ho);clear ho;go_enter Tryz.func36,Tryz.ntmps36;go_wp2
   all_goals
    go_ret;exact⟨by rw[HE.o]<;>rfl,((Bl.refl W).alloc _).alloc _⟩
  subst ho;have HE:=aB (HY.o ⟨H5.o,rfl,rfl,rfl,rfl,rfl⟩);clear HN HY;go_enter Tryz.func36,Tryz.ntmps36;go_wp2_with fail;clear hm1 hm2 hm3;go_loopw [6] (fun i wr=>∃j:Nat,j<=args.length/\i= .int .i64 (j:Int)/\Hid (R=(args.drop j).all eH)/\Bl W wr/\Hid (wr.heap[W.heap.size]?=some (.cells #[.int .i64 5,.int .i64 0,.int .i64 0,S [],S [],S [109,105,110],.int .i64 0,.slice a args.length cap] 47 (0,0)))) (fun i _=>args.length-(intOf i).toNat)
  case atStart=>exact⟨0,dL _,rfl,HE.o,(((Bl.refl W).alloc _).alloc _),(c5r W _ _)⟩
  case round=>
   obtain⟨j,hj,rfl,HD,hB,HX⟩:=hrel;obtain⟨⟨-,-,-,-,-,-,-,c7⟩,-⟩:=eight HX.o;have hfew:=HA.o.few;by_cases hlt:j<args.length
   ·have hltI:(j:Int)<(args.length:Int):=by omega
    obtain⟨b,off,s,rfl,h8,hr⟩:=HA.o.at8 j hlt;have HB:=aB hB;have HY:=aB (HA.o.ih _ (dS hlt));have HDj:=aB (a7c hlt);have HR:=aB (hr.bl hB);obtain⟨e0,e1,e2,e3,e4,e5,e6,e7⟩:=h8.bl hB;clear h8 hr hB;generalize hy:args[j]=y at *;clear hy;obtain⟨k',⟨v1',v2',v3'⟩,t',nm',o',args'⟩:=y;simp only[Ex.k,Ex.v,Ex.t,Ex.n,Ex.o] at e0 e1 e2 e3 e4 e5 e6;go_wp2_with fail;have hRE:eO wr (.mk k' (v1',v2',v3') t' nm' o' args') (EV k' (v1',v2',v3') t' nm' o' s):=⟨s,rfl,HR.o⟩
    (with_reducible refine(HY.o _ _ hRE).mono ?_)
    rintro e w5 ⟨rfl,hb5⟩;have HB5:=aB (HB.o.call hb5);have HX5:=aB ((hb5.block _ (aC.1 HX.o).1).trans HX.o);clear hb5 e0 e1 e2 e3 e4 e5 e6 e7 c7 hRE;cases hs:eH (.mk k' (v1',v2',v3') t' nm' o' args')
    ·have HF:=aB (show R=false from by rw[HD.o,HDj.o,hs];rfl);clear hs;go_wp2;go_ret;exact⟨by rw[HF.o]<;>rfl,HB5.o⟩
    ·have HF:=aB (show R=(args.drop (j+1)).all eH from by rw[HD.o,HDj.o,hs];rfl);clear hs;go_wp2;go_roundw
     case rel=>exact⟨j+1,by omega,by go_num,HF.o,HB5.o,HX5.o⟩
     case measure=>simp[intOf];omega
   ·obtain rfl:j=args.length:=by omega
    have HF:Hid (R=true):=(by show R=true;rw[HD.o,dO];rfl);have HB:=aB hB;clear hB;go_wp2;go_ret;exact⟨by rw[HF.o]<;>rfl,HB.o⟩
 ·clear h5;by_cases hm:1<(args.length:Int)
  case pos=>
   have HE:=aB (HN.o fun h=>by have:=h.1;omega);go_enter Tryz.func36,Tryz.ntmps36;go_wp2
   all_goals
    go_ret;exact⟨by rw[HE.o]<;>rfl,((Bl.refl W).alloc _).alloc _⟩
  have hm3:¬1<(args.length:Int):=hm;by_cases h0:(args.length:Int)=0
  case pos=>
   have HE:=aB (HN.o fun h=>by have:=h.1;omega);have hm1:((args.length:Int)==0)=true:=(by simpa using h0);have hm2:((args.length:Int) != 0)=false:=(by simpa using h0);clear h0;go_enter Tryz.func36,Tryz.ntmps36;go_wp2
   all_goals
    go_ret;exact⟨by rw[HE.o]<;>rfl,((Bl.refl W).alloc _).alloc _⟩
  have H5:=aB (show args.length=1 by omega);have hm1:((args.length:Int)==0)=false:=(by simpa using h0);have hm2:((args.length:Int) != 0)=true:=(by simpa using h0);clear h0 hm;by_cases hv1:v1=0
  case neg=>
   have HE:=aB (HN.o fun h=>hv1 h.2.1);have hb:(v1==0)=false:=(by simpa using hv1);have hb':(v1 != 0)=true:=(by simpa using hv1);clear hv1;go_enter Tryz.func36,Tryz.ntmps36;go_wp2
   all_goals
    go_ret;exact⟨by rw[HE.o]<;>rfl,((Bl.refl W).alloc _).alloc _⟩
  subst hv1;by_cases hv2:v2=0
  case neg=>
   have HE:=aB (HN.o fun h=>hv2 h.2.2.1);have hb:(v2==0)=false:=(by simpa using hv2);have hb':(v2 != 0)=true:=(by simpa using hv2);clear hv2;go_enter Tryz.func36,Tryz.ntmps36;go_wp2
   all_goals
    go_ret;exact⟨by rw[HE.o]<;>rfl,((Bl.refl W).alloc _).alloc _⟩
  subst hv2;by_cases hv3:v3=[]
  case neg=>
   have HE:=aB (HN.o fun h=>hv3 h.2.2.2.1);have hb:(v3==[])=false:=(by simpa using hv3);have hb':(v3 != [])=true:=(by simpa using hv3);clear hv3;go_enter Tryz.func36,Tryz.ntmps36;go_wp2
   all_goals
    go_ret;exact⟨by rw[HE.o]<;>rfl,((Bl.refl W).alloc _).alloc _⟩
  subst hv3;by_cases ht:t=[]
  case neg=>
   have HE:=aB (HN.o fun h=>ht h.2.2.2.2.1);have hb:(t==[])=false:=(by simpa using ht);have hb':(t != [])=true:=(by simpa using ht);clear ht;go_enter Tryz.func36,Tryz.ntmps36;go_wp2
   all_goals
    go_ret;exact⟨by rw[HE.o]<;>rfl,((Bl.refl W).alloc _).alloc _⟩
  subst ht;by_cases ho:o=0
  case neg=>
   have HE:=aB (HN.o fun h=>ho h.2.2.2.2.2);have hb:(o==0)=false:=(by simpa using ho);have hb':(o != 0)=true:=(by simpa using ho);clear ho;go_enter Tryz.func36,Tryz.ntmps36;go_wp2
   all_goals
    go_ret;exact⟨by rw[HE.o]<;>rfl,((Bl.refl W).alloc _).alloc _⟩
  subst ho;have HE:=aB (HY.o ⟨H5.o,rfl,rfl,rfl,rfl,rfl⟩);clear HN HY;go_enter Tryz.func36,Tryz.ntmps36;go_wp2_with fail;clear hm1 hm2 hm3;go_loopw [6] (fun i wr=>∃j:Nat,j<=args.length/\i= .int .i64 (j:Int)/\Hid (R=(args.drop j).all eH)/\Bl W wr/\Hid (wr.heap[W.heap.size]?=some (.cells #[.int .i64 5,.int .i64 0,.int .i64 0,S [],S [],S [109,97,120],.int .i64 0,.slice a args.length cap] 47 (0,0)))) (fun i _=>args.length-(intOf i).toNat)
  case atStart=>exact⟨0,dL _,rfl,HE.o,(((Bl.refl W).alloc _).alloc _),(c5r W _ _)⟩
  case round=>
   obtain⟨j,hj,rfl,HD,hB,HX⟩:=hrel;obtain⟨⟨-,-,-,-,-,-,-,c7⟩,-⟩:=eight HX.o;have hfew:=HA.o.few;by_cases hlt:j<args.length
   ·have hltI:(j:Int)<(args.length:Int):=by omega
    obtain⟨b,off,s,rfl,h8,hr⟩:=HA.o.at8 j hlt;have HB:=aB hB;have HY:=aB (HA.o.ih _ (dS hlt));have HDj:=aB (a7c hlt);have HR:=aB (hr.bl hB);obtain⟨e0,e1,e2,e3,e4,e5,e6,e7⟩:=h8.bl hB;clear h8 hr hB;generalize hy:args[j]=y at *;clear hy;obtain⟨k',⟨v1',v2',v3'⟩,t',nm',o',args'⟩:=y;simp only[Ex.k,Ex.v,Ex.t,Ex.n,Ex.o] at e0 e1 e2 e3 e4 e5 e6;go_wp2_with fail;have hRE:eO wr (.mk k' (v1',v2',v3') t' nm' o' args') (EV k' (v1',v2',v3') t' nm' o' s):=⟨s,rfl,HR.o⟩
    (with_reducible refine(HY.o _ _ hRE).mono ?_)
    rintro e w5 ⟨rfl,hb5⟩;have HB5:=aB (HB.o.call hb5);have HX5:=aB ((hb5.block _ (aC.1 HX.o).1).trans HX.o);clear hb5 e0 e1 e2 e3 e4 e5 e6 e7 c7 hRE;cases hs:eH (.mk k' (v1',v2',v3') t' nm' o' args')
    ·have HF:=aB (show R=false from by rw[HD.o,HDj.o,hs];rfl);clear hs;go_wp2;go_ret;exact⟨by rw[HF.o]<;>rfl,HB5.o⟩
    ·have HF:=aB (show R=(args.drop (j+1)).all eH from by rw[HD.o,HDj.o,hs];rfl);clear hs;go_wp2;go_roundw
     case rel=>exact⟨j+1,by omega,by go_num,HF.o,HB5.o,HX5.o⟩
     case measure=>simp[intOf];omega
   ·obtain rfl:j=args.length:=by omega
    have HF:Hid (R=true):=(by show R=true;rw[HD.o,dO];rfl);have HB:=aB hB;clear hB;go_wp2;go_ret;exact⟨by rw[HF.o]<;>rfl,HB.o⟩
theorem d0y{v1 v2 o:Int}{v3 t n:List UInt8}{a:Option Addr}{m cap:Nat}{W:World}(h1:n≠[99,111,117,110,116])(h2:n≠[115,117,109])(h3:n≠[109,105,110])(h4:n≠[109,97,120]):
  Calls Tryz.prog 36 #[EV 5 (v1,v2,v3) t n o (.slice a m cap)] W fun e w'=>e= .returned (.bool false)/\Bl W w':=by
 have b1:(n==[99,111,117,110,116])=false:=(by simpa using h1);have b2:(n==[115,117,109])=false:=(by simpa using h2);have b3:(n==[109,105,110])=false:=(by simpa using h3);have b4:(n==[109,97,120])=false:=(by simpa using h4);have c1:(n != [99,111,117,110,116])=true:=(by simpa using h1);have c2:(n != [115,117,109])=true:=(by simpa using h2);have c3:(n != [109,105,110])=true:=(by simpa using h3);have c4:(n != [109,97,120])=true:=(by simpa using h4);clear h1 h2 h3 h4;go_enter Tryz.func36,Tryz.ntmps36;go_wp2;go_ret;exact⟨rfl,((Bl.refl W).alloc _).alloc _⟩
theorem d1o{k v1 v2 o:Int}{v3 t n:List UInt8}{a:Option Addr}{m cap:Nat}{W:World}(h1:k≠1)(h2:k≠2)(h3:k≠3)(h4:k≠4)(h5:k≠5):
  Calls Tryz.prog 36 #[EV k (v1,v2,v3) t n o (.slice a m cap)] W fun e w'=>e= .returned (.bool false)/\Bl W w':=by
 have b1:(k==1)=false:=(by simpa using h1);have b2:(k==2)=false:=(by simpa using h2);have b3:(k==3)=false:=(by simpa using h3);have b4:(k==4)=false:=(by simpa using h4);have b5:(k==5)=false:=(by simpa using h5);clear h1 h2 h3 h4 h5;go_enter Tryz.func36,Tryz.ntmps36;go_wp2;go_ret;exact⟨rfl,((Bl.refl W).alloc _).alloc _⟩
end
end Go.Proofs.YtkimpcmkminffaaGreatDoor
