/- Texts beside the shared ones. -/
import Derived.Test.YtkimpcmkminffaaGreatDoorWX0
import Derived.Test.YtkimpcmkminffaaGreatDoorWFA
import Derived.Test.YtkimpcmkminffaaGreatDoorWM4
import Derived.Test.YtkimpcmkminffaaGreatDoorWCA
namespace Go.Proofs.YtkimpcmkminffaaGreatDoor
open Go.RowKit
open _root_.And renaming intro->bT
open _root_.Array renaming getElem?_eq_some_iff->aC
open _root_.Go.RowKit.Below renaming grown->iL
open _root_.Go.Lib renaming hid->aB
open _root_.List renaming drop_eq_getElem_cons->aZ,getElem?_eq_getElem->aP,getElem_mem->dS,length_map->mD,take_of_length_le->jS
open _root_.Nat renaming le_refl->aH,zero_le->dL
open _root_.Go.World renaming ownsRow_nil->d2l
set_option maxRecDepth 100000
set_option maxHeartbeats 16000000
section
theorem intFull:(Tryz.prog.info? 3).map (fun i=>(i.zero,i.size,i.bytes))=some (some (.int .i64 0),1,8):=by kernel_rfl
theorem own_intsA{T:TypeId}{W:World}{base:Nat}{v:Value}{l:List Int}(h:W.ownsRow base T 1 v l.length (l.flatMap fun t=>[.int .i64 t])):b3j W v l:=by
 obtain⟨a,cap,e,-,hc⟩:=own_list (fun t:Int=>[Value.int .i64 t]) (fun _=>rfl) h;subst e;refine⟨a,cap,rfl,fun j hj=>?_⟩;obtain⟨b,e,-,-,h5⟩:=hc j _ (aP hj);subst e;refine⟨b,0,rfl,?_⟩;have:=h5 0 _ rfl;simpa using this
theorem types_snoc(l:List Int){j:Nat}(hj:j<l.length):(l.take (j+1)).flatMap (fun t=>[Value.int .i64 t])=(l.take j).flatMap (fun t=>[Value.int .i64 t])++[.int .i64 l[j]]:=by
 rw[takeD_snoc l hj,List.flatMap_append];rfl
theorem allT_drop(pk:Bool)(all:Int){l:List Int}{j:Nat}(hj:j<l.length):allT pk all (l.drop j)=if pk=true/\l[j]≠0/\all≠0/\l[j]≠all then(all,120) else allT pk (max all l[j]) (l.drop (j+1)):=by
 rw[aZ hj];rfl
structure TyF(c:Array Value)(W A:World):Prop where
 x:A.heap[W.heap.size]?=some (.cells c 30 (0,0))
 r:A.heap[W.heap.size+1]?=some (.cells (cellsB 0 0 0 0 [] 0 0 [] (.slice none 0 0)) 30 (0,0))
 bl:Bl W A
theorem TyF.call{c:Array Value}{W A B:World}(h:TyF c W A)(hb:Bl A B):TyF c W B:=⟨keep_b h.x hb,keep_b h.r hb,h.bl.call hb⟩
theorem TyF.start(c:Array Value)(W:World):TyF c W ((W.alloc (.cells c 30)).alloc (.cells (cellsB 0 0 0 0 [] 0 0 [] (.slice none 0 0)) 30)):=
 ⟨keep_b (aN W _) ((Bl.refl _).alloc _),aV _ _ (by simp),((Bl.refl W).alloc _).alloc _⟩
theorem TyF.but{c c':Array Value}{W A B:World}(h:TyF c W A)(hb:But W.heap.size A B)(hx:B.heap[W.heap.size]?=some (.cells c' 30 (0,0))):TyF c' W B:=⟨hx,(hb.same _ (by omega)).trans h.r,hb.bl h.bl (aH _)⟩
theorem type_err{k o t:Int}{v:Vl}{n:List UInt8}{l:List Bd}(h:(allT (decide (k=4)) 0 (l.map Bd.t)).2≠0):typeD k o t v n l=(t,(allT (decide (k=4)) 0 (l.map Bd.t)).2):=by
 unfold typeD;rw[if_pos h]
theorem type_val{o t:Int}{v:Vl}{n:List UInt8}{l:List Bd}(h:(allT (decide ((1:Int)=4)) 0 (l.map Bd.t)).2=0):typeD 1 o t v n l=(v.1,0):=by
 unfold typeD;rw[if_neg (fun e=>e h),if_pos rfl]
theorem type_op{o t:Int}{v:Vl}{n:List UInt8}{l:List Bd}(h:(allT (decide ((3:Int)=4)) 0 (l.map Bd.t)).2=0):typeD 3 o t v n l=makesO o (l.map Bd.t):=by
 unfold typeD;rw[if_neg (fun e=>e h),if_neg (by decide),if_pos rfl]
theorem type_pick{o t:Int}{v:Vl}{n:List UInt8}{l:List Bd}(h:(allT (decide ((4:Int)=4)) 0 (l.map Bd.t)).2=0):typeD 4 o t v n l=((allT (decide ((4:Int)=4)) 0 (l.map Bd.t)).1,0):=by
 unfold typeD;rw[if_neg (fun e=>e h),if_neg (by decide),if_neg (by decide),if_pos rfl]
theorem type_sum{o t:Int}{v:Vl}{n:List UInt8}{l:List Bd}(h:(allT (decide ((5:Int)=4)) 0 (l.map Bd.t)).2=0):typeD 5 o t v n l=
  if n=c1m/\(allT (decide ((5:Int)=4)) 0 (l.map Bd.t)).1≠0/\(allT (decide ((5:Int)=4)) 0 (l.map Bd.t)).1≠2 then(t,120) else if sumssD l then(t,302) else(if n=c1m\/n=gX then 2 else(allT (decide ((5:Int)=4)) 0 (l.map Bd.t)).1,0):=by
 unfold typeD;rw[if_neg (fun e=>e h),if_neg (by decide),if_neg (by decide),if_neg (by decide),if_pos rfl]
theorem type_oth{k o t:Int}{v:Vl}{n:List UInt8}{l:List Bd}(h:(allT (decide (k=4)) 0 (l.map Bd.t)).2=0)(h1:k≠1)(h3:k≠3)(h4:k≠4)(h5:k≠5):typeD k o t v n l=(t,0):=by
 unfold typeD;rw[if_neg (fun e=>e h),if_neg h1,if_neg h3,if_neg h4,if_neg h5]
theorem wtyped_any(x:Bd)(hp:partsD x<=1000000)(W:World)(v:Value)(hv:ReadsD W x v):
  Calls Tryz.prog 60 #[v] W fun e w'=>(∃s,v=BdV x.k x.t x.v x.p x.o x.n s/\e= .returned (.tuple #[BdV x.k (typeD x.k x.o x.t x.v x.n x.args).1 x.v x.p x.o x.n s,.int .i64 (typeD x.k x.o x.t x.v x.n x.args).2]))/\Bl W w':=by
 obtain⟨sv,rfl,hL⟩:=hv;obtain⟨a,cap,rfl,hc⟩:=hL.shape;have HC:=aB hc;have hlen:x.args.length<=999999:=(by have:=partsD_len x;omega);have HSM:Hid (∀y∈x.args,∀(W':World) (v:Value),ReadsD W' y v->Calls Tryz.prog 18 #[v] W' fun e w'=>e= .returned (.bool (sumsD y))/\Bl W' w'):=fun y hy W' v hv=>wSums_any 1000000 y (by have:=partsD_arg hy;omega) (aH _) W' v hv;clear hc hL hp;obtain⟨k,t,⟨v1,v2,v3⟩,p,o,n,args⟩:=x;simp only[Bd.k,Bd.t,Bd.v,Bd.p,Bd.o,Bd.n,Bd.args] at *;obtain⟨Z,HZ⟩:∃Z,Hid (typeD k o t (v1,v2,v3) n args=Z):=⟨_,rfl⟩
 rw[HZ.o];obtain⟨pk,hpk⟩:∃pk,decide (k=4)=pk:=⟨_,rfl⟩
 have hk4:(k==4)=pk:=(by rw[<-hpk];rfl);obtain⟨R,HR⟩:∃R,Hid (allT pk 0 (args.map Bd.t)=R):=⟨_,rfl⟩
 have HPK:=aB hpk;have HTL:Hid ((args.map Bd.t).length=args.length):=mD ..;clear hpk;obtain⟨m,hm⟩:∃m,args.length=m:=⟨_,rfl⟩
 have HM:=aB hm;rw[hm] at hlen HTL;have HF0:=aB (TyF.start (cellsB k t v1 v2 v3 p o n (.slice a m cap)) W);rw[hm];clear hm;go_enter Tryz.func60,Tryz.ntmps60;go_wp2_with fail;go_loopw [4,5,6] (fun sv al i wr=>∃(j:Nat) (v0:Value) (all:Int),v0=sv/\al= .int .i64 all/\j<=m/\i= .int .i64 (j:Int)/\Hid (wr.ownsRow (W.heap.size+2) 3 1 v0 j (((args.map Bd.t).take j).flatMap fun t=>[.int .i64 t]))/\Hid (allT pk all ((args.map Bd.t).drop j)=R)/\Hid (TyF (cellsB k t v1 v2 v3 p o n (.slice a m cap)) W wr)) (fun _ _ i _=>m-(intOf i).toNat)
 case atStart=>exact⟨0,_,0,rfl,rfl,dL _,rfl,d2l _ _ _ _,HR.o,HF0.o⟩
 case round=>
  obtain⟨j,v0,all,rfl,rfl,hj,rfl,HO,HA,HF⟩:=hrel;obtain⟨g0,g1,g2,g3,g4,g5,g6,g7,g8⟩:=nine HF.o.x;by_cases hlt:j<m
  ·obtain⟨b,off,s,rfl,-,hbl,h9,hr⟩:=HC.o j (by rw[HM.o];exact hlt);have hjt:j<(args.map Bd.t).length:=(by rw[HTL.o];exact hlt);have HSN:=aB (types_snoc (args.map Bd.t) hjt);have HDR:=aB (HA.o.symm.trans (allT_drop pk all hjt));obtain⟨-,e1,-,-,-,-,-,-,-⟩:=(h9.keep (HF.o.bl.block b hbl)).nine;have hge:(args.map Bd.t)[j]'hjt=(args[j]'(by rw[HM.o];exact hlt)).t:=(by simp);rw[hge] at HSN HDR;clear h9 hr hge;generalize (args[j]'(by rw[HM.o];exact hlt)).t=t' at *;have hlt':(j:Int)<(m:Int):=(by omega);have hszr:W.heap.size+2<=wr.heap.size:=(by have:=(aC.1 HF.o.r).1;omega);go_wp2_with (at_builtin;refine wpList_append_row rfl (.tmp 24) (.tmp 26) rfl intFull Tryz.underlying53 rfl (by decide) (by decide) (W.heap.size+2) _ j _ rfl (gY ((Bl.refl wr).alloc _) HO.o) wr.heap.size [.int .i64 t'] rfl (aN wr _) rfl rfl (by omega) (by simp;omega) ?_)
   intro v' w2 hown2 hg2 _;have hlow:=HO.o.lt;have hkeep:∀i,i<W.heap.size+2->w2.heap[i]?=wr.heap[i]?:=fun i hi=>(hg2.block i (by simp;omega) (fun e=>by have:=(hlow i e.symm).1;omega)).trans (aW wr _ (by omega));have HF2:=aB (show TyF (cellsB k t v1 v2 v3 p o n (.slice (some ⟨b,off,none⟩) m cap)) W w2 from⟨(hkeep _ (by omega)).trans HF.o.x,(hkeep _ (by omega)).trans HF.o.r,iL (HF.o.bl.alloc (.cells #[.int .i64 t'] 3)) hg2 (by simp;omega) (fun i hi=>by have:=(hlow i hi).1;omega)⟩);have HO2:=aB hown2;clear hown2 hg2 hlow hkeep e1 g0 g1 g2 g3 g4 g5 g6 g7 g8;obtain⟨g0,g1,g2,g3,g4,g5,g6,g7,g8⟩:=nine HF2.o.x;by_cases hq:pk=true/\t'≠0/\all≠0/\t'≠all
   ·have HR0:=aB (show R=(all,120) from by rw[HDR.o,if_pos hq]);obtain⟨rfl,h1,h2,h3⟩:=hq;have q1:(t' != 0)=true:=(by simpa using h1);have q2:(all != 0)=true:=(by simpa using h2);have q3:(t' != all)=true:=(by simpa using h3);clear h1 h2 h3 HC HSM;obtain⟨g0,g1,g2,g3,g4,g5,g6,g7,g8⟩:=nine (HF2.o).x;go_wp2_with (refine bA (g:=W.heap.size+1) (i:=0) rfl rfl rfl rfl [.int .i64 k,.int .i64 t,.int .i64 v1,.int .i64 v2,S v3,.int .i64 p,.int .i64 o,S n,.slice ((some ⟨b,off,none⟩)) m cap] (HF2.o).r rfl rfl bdInfo rfl ?_)
    intro w9 hB9 hX9;obtain⟨q0,q1,q2,q3,q4,q5,q6,q7,q8⟩:=nine hX9;go_wp2;refine bodyPost_ret (v:= .tuple #[BdV k t (v1,v2,v3) p o n (.slice ((some ⟨b,off,none⟩)) m cap),.int .i64 120]) (by simp[results,Tryz.results60,go_sem,q0,q1,q2,q3,q4,q5,q6,q7,q8]) rfl ⟨?_,hB9.bl (HF2.o).bl (by omega)⟩;refine⟨_,rfl,?_⟩;have h:=type_err (k:=k) (o:=o) (t:=t) (v:=(v1,v2,v3)) (n:=n) (l:=args) (by rw[HPK.o,HR.o,HR0.o];simp);rw[HPK.o,HR.o,HR0.o,HZ.o] at h;rw[h]
   ·have HNX:=aB (show allT pk (max all t') ((args.map Bd.t).drop (j+1))=R from by rw[HDR.o,if_neg hq]);have hways:t'=0\/(t'≠0/\all=0)\/(t'≠0/\all≠0/\t'=all)\/(t'≠0/\all≠0/\t'≠all/\pk=false):=by
     by_cases h1:t'=0
     ·exact .inl h1
     by_cases h2:all=0
     ·exact .inr (.inl ⟨h1,h2⟩)
     by_cases h3:t'=all
     ·exact .inr (.inr (.inl ⟨h1,h2,h3⟩))
     refine .inr (.inr (.inr ⟨h1,h2,h3,?_⟩));cases pk
     ·rfl
     ·exact absurd ⟨rfl,h1,h2,h3⟩ hq
    clear hq HC HSM;rcases hways with h1|⟨h1,h2⟩|⟨h1,h2,h3⟩|⟨h1,h2,h3,h4⟩
    ·have q1:(t' != 0)=false:=by simpa using h1
     clear h1;go_wp2;go_roundw
     case rel=>exact⟨j+1,_,_,rfl,rfl,by omega,by go_num,by rw[HSN.o];exact HO2.o,HNX.o,HF2.o⟩
     case measure=>simp[intOf];omega
    ·have q1:(t' != 0)=true:=by simpa using h1
     have q2:(all != 0)=false:=(by simpa using h2);clear h1 h2;go_wp2;go_roundw
     case rel=>exact⟨j+1,_,_,rfl,rfl,by omega,by go_num,by rw[HSN.o];exact HO2.o,HNX.o,HF2.o⟩
     case measure=>simp[intOf];omega
    ·have q1:(t' != 0)=true:=by simpa using h1
     have q2:(all != 0)=true:=(by simpa using h2);have q3:(t' != all)=false:=(by simpa using h3);clear h1 h2 h3;go_wp2;go_roundw
     case rel=>exact⟨j+1,_,_,rfl,rfl,by omega,by go_num,by rw[HSN.o];exact HO2.o,HNX.o,HF2.o⟩
     case measure=>simp[intOf];omega
    ·have q1:(t' != 0)=true:=by simpa using h1
     have q2:(all != 0)=true:=(by simpa using h2);have q3:(t' != all)=true:=(by simpa using h3);rw[h4] at hk4;clear h1 h2 h3;go_wp2;go_roundw
     case rel=>exact⟨j+1,_,_,rfl,rfl,by omega,by go_num,by rw[HSN.o];exact HO2.o,HNX.o,HF2.o⟩
     case measure=>simp[intOf];omega
  ·obtain rfl:m=j:=by omega
   have hR0:R=(all,0):=by
    have h:=HA.o;rw[List.drop_of_length_le (by rw[HTL.o];exact aH _)] at h;exact h.symm
   have HI:Hid (b3j wr v0 (args.map Bd.t)):=by
    have h:=HO.o;rw[jS (by rw[HTL.o];exact aH _)] at h;refine own_intsA (T:=3) (base:=W.heap.size+2) ?_;rw[HTL.o];exact h
   have hz:(allT (decide (k=4)) 0 (args.map Bd.t)).2=0:=(by rw[HPK.o,HR.o,hR0]);have hz1:(allT (decide (k=4)) 0 (args.map Bd.t)).1=all:=(by rw[HPK.o,HR.o,hR0]);have hge:¬((m:Int)<(m:Int)):=(by omega);have HH:=aB (bT hz hz1);clear HO HA hR0 hz hz1;obtain⟨va,vc,rfl⟩:∃va vc,v0= .slice va m vc:=by
    obtain⟨va,vc,e,-⟩:=HI.o;rw[HTL.o] at e;exact⟨va,vc,e⟩
   by_cases h1:k=1
   ·have g1:(k==1)=true:=by simpa using h1
    have HZ2:Hid (Z=(v1,0)):=by
     have e:=HZ.o;have hh:=HH.o.1;rw[h1] at e hh;exact e.symm.trans (type_val hh)
    clear h1 HC HSM hk4 HZ HH;go_wp2_with (refine bA (g:=W.heap.size) (i:=1) rfl rfl rfl rfl [.int .i64 k,.int .i64 v1,.int .i64 v1,.int .i64 v2,S v3,.int .i64 p,.int .i64 o,S n,.slice (a) m cap] (HF.o).x rfl rfl tyInfo1 rfl ?_)
    intro w5 hBs hXs;have HF5:=aB ((HF.o).but hBs hXs);clear hBs hXs;obtain⟨g0,g1,g2,g3,g4,g5,g6,g7,g8⟩:=nine (HF5.o).x;go_wp2_with (refine bA (g:=W.heap.size+1) (i:=0) rfl rfl rfl rfl [.int .i64 k,.int .i64 v1,.int .i64 v1,.int .i64 v2,S v3,.int .i64 p,.int .i64 o,S n,.slice (a) m cap] (HF5.o).r rfl rfl bdInfo rfl ?_)
    intro w9 hB9 hX9;obtain⟨q0,q1,q2,q3,q4,q5,q6,q7,q8⟩:=nine hX9;go_wp2;refine bodyPost_ret (v:= .tuple #[BdV k v1 (v1,v2,v3) p o n (.slice (a) m cap),.int .i64 0]) (by simp[results,Tryz.results60,go_sem,q0,q1,q2,q3,q4,q5,q6,q7,q8]) rfl ⟨?_,hB9.bl (HF5.o).bl (by omega)⟩;exact⟨_,rfl,by rw[HZ2.o]⟩
   have g1:(k==1)=false:=(by simpa using h1);by_cases h3:k=3
   ·have g3:(k==3)=true:=by simpa using h3
    have HZ2:Hid (Z=makesO o (args.map Bd.t)):=by
     have e:=HZ.o;have hh:=HH.o.1;rw[h3] at e hh;exact e.symm.trans (type_op hh)
    have HMK:Hid (Calls Tryz.prog 88 #[.int .i64 o,.slice va m vc] wr fun e w'=>e= .returned (.tuple #[.int .i64 (makesO o (args.map Bd.t)).1,.int .i64 (makesO o (args.map Bd.t)).2])/\Bl wr w'):=by
     have h:=uMakes_any o (args.map Bd.t) va vc (by rw[HTL.o];omega) wr (by rw[HTL.o];exact HI.o);rw[HTL.o] at h;exact h
    obtain⟨MK,hMK⟩:∃MK,makesO o (args.map Bd.t)=MK:=⟨_,rfl⟩
    rw[hMK] at HMK HZ2;obtain⟨mt,mc⟩:=MK;clear h1 h3 HC HSM hk4 HZ HH hMK HI;go_wp2_with fail;refine HMK.o.mono ?_;rintro e w4 ⟨rfl,hb4⟩;have HF4:=aB (HF.o.call hb4);clear hb4 g0 g1 g2 g3 g4 g5 g6 g7 g8;go_wp2_with (refine bA (g:=W.heap.size) (i:=1) rfl rfl rfl rfl [.int .i64 k,.int .i64 mt,.int .i64 v1,.int .i64 v2,S v3,.int .i64 p,.int .i64 o,S n,.slice (a) m cap] (HF4.o).x rfl rfl tyInfo1 rfl ?_)
    intro w5 hBs hXs;have HF5:=aB ((HF4.o).but hBs hXs);clear hBs hXs;obtain⟨g0,g1,g2,g3,g4,g5,g6,g7,g8⟩:=nine (HF5.o).x;go_wp2_with (refine bA (g:=W.heap.size+1) (i:=0) rfl rfl rfl rfl [.int .i64 k,.int .i64 mt,.int .i64 v1,.int .i64 v2,S v3,.int .i64 p,.int .i64 o,S n,.slice (a) m cap] (HF5.o).r rfl rfl bdInfo rfl ?_)
    intro w9 hB9 hX9;obtain⟨q0,q1,q2,q3,q4,q5,q6,q7,q8⟩:=nine hX9;go_wp2;refine bodyPost_ret (v:= .tuple #[BdV k mt (v1,v2,v3) p o n (.slice (a) m cap),.int .i64 mc]) (by simp[results,Tryz.results60,go_sem,q0,q1,q2,q3,q4,q5,q6,q7,q8]) rfl ⟨?_,hB9.bl (HF5.o).bl (by omega)⟩;exact⟨_,rfl,by rw[HZ2.o]⟩
   have g3:(k==3)=false:=(by simpa using h3);by_cases h4:k=4
   ·have g4:(k==4)=true:=by simpa using h4
    have HZ2:Hid (Z=(all,0)):=by
     have e:=HZ.o;have hh:=HH.o;rw[h4] at e hh;exact(e.symm.trans (type_pick hh.1)).trans (by rw[hh.2])
    clear h1 h3 h4 HC HSM hk4 HZ HH HI;go_wp2_with (refine bA (g:=W.heap.size) (i:=1) rfl rfl rfl rfl [.int .i64 k,.int .i64 all,.int .i64 v1,.int .i64 v2,S v3,.int .i64 p,.int .i64 o,S n,.slice (a) m cap] (HF.o).x rfl rfl tyInfo1 rfl ?_)
    intro w5 hBs hXs;have HF5:=aB ((HF.o).but hBs hXs);clear hBs hXs;obtain⟨g0,g1,g2,g3,g4,g5,g6,g7,g8⟩:=nine (HF5.o).x;go_wp2_with (refine bA (g:=W.heap.size+1) (i:=0) rfl rfl rfl rfl [.int .i64 k,.int .i64 all,.int .i64 v1,.int .i64 v2,S v3,.int .i64 p,.int .i64 o,S n,.slice (a) m cap] (HF5.o).r rfl rfl bdInfo rfl ?_)
    intro w9 hB9 hX9;obtain⟨q0,q1,q2,q3,q4,q5,q6,q7,q8⟩:=nine hX9;go_wp2;refine bodyPost_ret (v:= .tuple #[BdV k all (v1,v2,v3) p o n (.slice (a) m cap),.int .i64 0]) (by simp[results,Tryz.results60,go_sem,q0,q1,q2,q3,q4,q5,q6,q7,q8]) rfl ⟨?_,hB9.bl (HF5.o).bl (by omega)⟩;exact⟨_,rfl,by rw[HZ2.o]⟩
   have g4:(k==4)=false:=(by simpa using h4);by_cases h5:k=5
   ·have g5:(k==5)=true:=by simpa using h5
    have HZ2:Hid (Z=if n=c1m/\all≠0/\all≠2 then(t,120) else if sumssD args then(t,302) else(if n=c1m\/n=gX then 2 else all,0)):=by
     have e:=HZ.o;have hh:=HH.o;rw[h5] at e hh;exact(e.symm.trans (type_sum hh.1)).trans (by rw[hh.2])
    have HBL:=aB HF.o.bl;clear h1 h3 h4 h5 hk4 HZ HH HI;by_cases hn:n=c1m
    ·have gn:(n==[115,117,109])=true:=by rw[hn];rfl
     by_cases h0:all=0
     ·have q0:(all != 0)=false:=by simpa using h0
      have HZ3:=aB (HZ2.o.trans (if_neg (fun h=>h.2.1 h0)));have HZ4:=aB (fun(h:sumssD args=false)=>HZ3.o.trans ((if_neg (by rw[h];decide)).trans (by rw[if_pos (.inl hn)])));have HZ5:=aB (fun(h:sumssD args=true)=>HZ3.o.trans (if_pos h));clear h0 hn HZ2 HZ3;go_wp2_with fail;go_loopw [10] (fun i w6=>∃q:Nat,q<=m/\i= .int .i64 (q:Int)/\Hid (sumssD args=sumssD (args.drop q))/\Hid (TyF (cellsB k t v1 v2 v3 p o n (.slice a m cap)) W w6)) (fun i _=>m-(intOf i).toNat)
      case atStart=>exact⟨0,dL _,rfl,rfl,HF.o⟩
      case round=>
       clear HF g0 g1 g2 g3 g4 g5 g6 g7 g8;obtain⟨q,hq,rfl,HS,HF6⟩:=hrel;obtain⟨g0,g1,g2,g3,g4,g5,g6,g7,g8⟩:=nine HF6.o.x;by_cases hlt:q<m
       ·obtain⟨b,off,s,rfl,-,hbl,h8,hr⟩:=HC.o q (by rw[HM.o];exact hlt);have HY:=aB (HSM.o _ (dS (by rw[HM.o];exact hlt:q<args.length)));have HDj:=aB (HS.o.trans (sumssD_drop (by rw[HM.o];exact hlt)));have HRD:=aB (hr.bl HF6.o.bl);obtain⟨e0,e1,e2,e3,e4,e5,e6,e7,e8⟩:=(h8.keep (HF6.o.bl.block b hbl)).nine;clear h8 hr;generalize hy:args[q]'(by rw[HM.o];exact hlt)=y at *;clear hy;obtain⟨k',t',⟨v1',v2',v3'⟩,pt',o',nm',args'⟩:=y;simp only[Bd.k,Bd.t,Bd.v,Bd.p,Bd.o,Bd.n] at e0 e1 e2 e3 e4 e5 e6 e7;have HRE:=aB (show ReadsD _ (.mk k' t' (v1',v2',v3') pt' o' nm' args') (BdV k' t' (v1',v2',v3') pt' o' nm' s) from⟨s,rfl,HRD.o⟩);have hlt':(q:Int)<(m:Int):=(by omega);clear HC HSM;go_wp2_with fail;refine(HY.o _ _ HRE.o).mono ?_;rintro e w7 ⟨rfl,hb7⟩;have HF7:=aB (HF6.o.call hb7);clear hb7 e0 e1 e2 e3 e4 e5 e6 e7 e8 g0 g1 g2 g3 g4 g5 g6 g7 g8;cases hs:sumsD (.mk k' t' (v1',v2',v3') pt' o' nm' args')
        ·have HN:=aB (HDj.o.trans (by rw[hs];rfl):sumssD args=sumssD (args.drop (q+1)));clear hs;go_wp2;go_roundw
         case rel=>exact⟨q+1,by omega,by go_num,HN.o,HF7.o⟩
         case measure=>simp[intOf];omega
        ·have HN:=aB (HDj.o.trans (by rw[hs];rfl):sumssD args=true);clear hs;obtain⟨g0,g1,g2,g3,g4,g5,g6,g7,g8⟩:=nine (HF7.o).x;go_wp2_with (refine bA (g:=W.heap.size+1) (i:=0) rfl rfl rfl rfl [.int .i64 k,.int .i64 t,.int .i64 v1,.int .i64 v2,S v3,.int .i64 p,.int .i64 o,S n,.slice ((some ⟨b,off,none⟩)) m cap] (HF7.o).r rfl rfl bdInfo rfl ?_)
         intro w9 hB9 hX9;obtain⟨q0,q1,q2,q3,q4,q5,q6,q7,q8⟩:=nine hX9;go_wp2;refine bodyPost_ret (v:= .tuple #[BdV k t (v1,v2,v3) p o n (.slice ((some ⟨b,off,none⟩)) m cap),.int .i64 302]) (by simp[results,Tryz.results60,go_sem,q0,q1,q2,q3,q4,q5,q6,q7,q8]) rfl ⟨?_,hB9.bl (HF7.o).bl (by omega)⟩;exact⟨_,rfl,by rw[HZ5.o HN.o]⟩
       ·obtain rfl:m=q:=by omega
        have HS0:=aB (HS.o.trans (by rw[List.drop_of_length_le (by rw[HM.o];exact aH _)];rfl):sumssD args=false);have hge2:¬((m:Int)<(m:Int)):=(by omega);clear HC HSM;go_wp2_with (refine bA (g:=W.heap.size) (i:=1) rfl rfl rfl rfl [.int .i64 k,.int .i64 all,.int .i64 v1,.int .i64 v2,S v3,.int .i64 p,.int .i64 o,S n,.slice (a) m cap] (HF6.o).x rfl rfl tyInfo1 rfl ?_)
        intro w7 hBs hXs;have HF7:=aB ((HF6.o).but hBs hXs);clear hBs hXs;clear g0 g1 g2 g3 g4 g5 g6 g7 g8;obtain⟨g0,g1,g2,g3,g4,g5,g6,g7,g8⟩:=nine HF7.o.x;go_wp2_with (refine bA (g:=W.heap.size) (i:=1) rfl rfl rfl rfl [.int .i64 k,.int .i64 2,.int .i64 v1,.int .i64 v2,S v3,.int .i64 p,.int .i64 o,S n,.slice (a) m cap] (HF7.o).x rfl rfl tyInfo1 rfl ?_)
        intro w8 hBs hXs;have HF8:=aB ((HF7.o).but hBs hXs);clear hBs hXs;clear g0 g1 g2 g3 g4 g5 g6 g7 g8;obtain⟨g0,g1,g2,g3,g4,g5,g6,g7,g8⟩:=nine (HF8.o).x;go_wp2_with (refine bA (g:=W.heap.size+1) (i:=0) rfl rfl rfl rfl [.int .i64 k,.int .i64 2,.int .i64 v1,.int .i64 v2,S v3,.int .i64 p,.int .i64 o,S n,.slice (a) m cap] (HF8.o).r rfl rfl bdInfo rfl ?_)
        intro w9 hB9 hX9;obtain⟨q0,q1,q2,q3,q4,q5,q6,q7,q8⟩:=nine hX9;go_wp2;refine bodyPost_ret (v:= .tuple #[BdV k 2 (v1,v2,v3) p o n (.slice (a) m cap),.int .i64 0]) (by simp[results,Tryz.results60,go_sem,q0,q1,q2,q3,q4,q5,q6,q7,q8]) rfl ⟨?_,hB9.bl (HF8.o).bl (by omega)⟩;exact⟨_,rfl,by rw[HZ4.o HS0.o]⟩
     ·have q0:(all != 0)=true:=by simpa using h0
      by_cases h2:all=2
      ·have q2:(all != 2)=false:=by simpa using h2
       have HZ3:=aB (HZ2.o.trans (if_neg (fun h=>h.2.2 h2)));have HZ4:=aB (fun(h:sumssD args=false)=>HZ3.o.trans ((if_neg (by rw[h];decide)).trans (by rw[if_pos (.inl hn)])));have HZ5:=aB (fun(h:sumssD args=true)=>HZ3.o.trans (if_pos h));clear h0 h2 hn HZ2 HZ3;go_wp2_with fail;go_loopw [10] (fun i w6=>∃q:Nat,q<=m/\i= .int .i64 (q:Int)/\Hid (sumssD args=sumssD (args.drop q))/\Hid (TyF (cellsB k t v1 v2 v3 p o n (.slice a m cap)) W w6)) (fun i _=>m-(intOf i).toNat)
       case atStart=>exact⟨0,dL _,rfl,rfl,HF.o⟩
       case round=>
        clear HF g0 g1 g2 g3 g4 g5 g6 g7 g8;obtain⟨q,hq,rfl,HS,HF6⟩:=hrel;obtain⟨g0,g1,g2,g3,g4,g5,g6,g7,g8⟩:=nine HF6.o.x;by_cases hlt:q<m
        ·obtain⟨b,off,s,rfl,-,hbl,h8,hr⟩:=HC.o q (by rw[HM.o];exact hlt);have HY:=aB (HSM.o _ (dS (by rw[HM.o];exact hlt:q<args.length)));have HDj:=aB (HS.o.trans (sumssD_drop (by rw[HM.o];exact hlt)));have HRD:=aB (hr.bl HF6.o.bl);obtain⟨e0,e1,e2,e3,e4,e5,e6,e7,e8⟩:=(h8.keep (HF6.o.bl.block b hbl)).nine;clear h8 hr;generalize hy:args[q]'(by rw[HM.o];exact hlt)=y at *;clear hy;obtain⟨k',t',⟨v1',v2',v3'⟩,pt',o',nm',args'⟩:=y;simp only[Bd.k,Bd.t,Bd.v,Bd.p,Bd.o,Bd.n] at e0 e1 e2 e3 e4 e5 e6 e7;have HRE:=aB (show ReadsD _ (.mk k' t' (v1',v2',v3') pt' o' nm' args') (BdV k' t' (v1',v2',v3') pt' o' nm' s) from⟨s,rfl,HRD.o⟩);have hlt':(q:Int)<(m:Int):=(by omega);clear HC HSM;go_wp2_with fail;refine(HY.o _ _ HRE.o).mono ?_;rintro e w7 ⟨rfl,hb7⟩;have HF7:=aB (HF6.o.call hb7);clear hb7 e0 e1 e2 e3 e4 e5 e6 e7 e8 g0 g1 g2 g3 g4 g5 g6 g7 g8;cases hs:sumsD (.mk k' t' (v1',v2',v3') pt' o' nm' args')
         ·have HN:=aB (HDj.o.trans (by rw[hs];rfl):sumssD args=sumssD (args.drop (q+1)));clear hs;go_wp2;go_roundw
          case rel=>exact⟨q+1,by omega,by go_num,HN.o,HF7.o⟩
          case measure=>simp[intOf];omega
         ·have HN:=aB (HDj.o.trans (by rw[hs];rfl):sumssD args=true);clear hs;obtain⟨g0,g1,g2,g3,g4,g5,g6,g7,g8⟩:=nine (HF7.o).x;go_wp2_with (refine bA (g:=W.heap.size+1) (i:=0) rfl rfl rfl rfl [.int .i64 k,.int .i64 t,.int .i64 v1,.int .i64 v2,S v3,.int .i64 p,.int .i64 o,S n,.slice ((some ⟨b,off,none⟩)) m cap] (HF7.o).r rfl rfl bdInfo rfl ?_)
          intro w9 hB9 hX9;obtain⟨q0,q1,q2,q3,q4,q5,q6,q7,q8⟩:=nine hX9;go_wp2;refine bodyPost_ret (v:= .tuple #[BdV k t (v1,v2,v3) p o n (.slice ((some ⟨b,off,none⟩)) m cap),.int .i64 302]) (by simp[results,Tryz.results60,go_sem,q0,q1,q2,q3,q4,q5,q6,q7,q8]) rfl ⟨?_,hB9.bl (HF7.o).bl (by omega)⟩;exact⟨_,rfl,by rw[HZ5.o HN.o]⟩
        ·obtain rfl:m=q:=by omega
         have HS0:=aB (HS.o.trans (by rw[List.drop_of_length_le (by rw[HM.o];exact aH _)];rfl):sumssD args=false);have hge2:¬((m:Int)<(m:Int)):=(by omega);clear HC HSM;go_wp2_with (refine bA (g:=W.heap.size) (i:=1) rfl rfl rfl rfl [.int .i64 k,.int .i64 all,.int .i64 v1,.int .i64 v2,S v3,.int .i64 p,.int .i64 o,S n,.slice (a) m cap] (HF6.o).x rfl rfl tyInfo1 rfl ?_)
         intro w7 hBs hXs;have HF7:=aB ((HF6.o).but hBs hXs);clear hBs hXs;clear g0 g1 g2 g3 g4 g5 g6 g7 g8;obtain⟨g0,g1,g2,g3,g4,g5,g6,g7,g8⟩:=nine HF7.o.x;go_wp2_with (refine bA (g:=W.heap.size) (i:=1) rfl rfl rfl rfl [.int .i64 k,.int .i64 2,.int .i64 v1,.int .i64 v2,S v3,.int .i64 p,.int .i64 o,S n,.slice (a) m cap] (HF7.o).x rfl rfl tyInfo1 rfl ?_)
         intro w8 hBs hXs;have HF8:=aB ((HF7.o).but hBs hXs);clear hBs hXs;clear g0 g1 g2 g3 g4 g5 g6 g7 g8;obtain⟨g0,g1,g2,g3,g4,g5,g6,g7,g8⟩:=nine (HF8.o).x;go_wp2_with (refine bA (g:=W.heap.size+1) (i:=0) rfl rfl rfl rfl [.int .i64 k,.int .i64 2,.int .i64 v1,.int .i64 v2,S v3,.int .i64 p,.int .i64 o,S n,.slice (a) m cap] (HF8.o).r rfl rfl bdInfo rfl ?_)
         intro w9 hB9 hX9;obtain⟨q0,q1,q2,q3,q4,q5,q6,q7,q8⟩:=nine hX9;go_wp2;refine bodyPost_ret (v:= .tuple #[BdV k 2 (v1,v2,v3) p o n (.slice (a) m cap),.int .i64 0]) (by simp[results,Tryz.results60,go_sem,q0,q1,q2,q3,q4,q5,q6,q7,q8]) rfl ⟨?_,hB9.bl (HF8.o).bl (by omega)⟩;exact⟨_,rfl,by rw[HZ4.o HS0.o]⟩
      ·have q2:(all != 2)=true:=by simpa using h2
       have HZ3:=aB (HZ2.o.trans (if_pos ⟨hn,h0,h2⟩));clear h0 h2 hn HZ2 HC HSM;obtain⟨g0,g1,g2,g3,g4,g5,g6,g7,g8⟩:=nine (HF.o).x;go_wp2_with (refine bA (g:=W.heap.size+1) (i:=0) rfl rfl rfl rfl [.int .i64 k,.int .i64 t,.int .i64 v1,.int .i64 v2,S v3,.int .i64 p,.int .i64 o,S n,.slice (a) m cap] (HF.o).r rfl rfl bdInfo rfl ?_)
       intro w9 hB9 hX9;obtain⟨q0,q1,q2,q3,q4,q5,q6,q7,q8⟩:=nine hX9;go_wp2;refine bodyPost_ret (v:= .tuple #[BdV k t (v1,v2,v3) p o n (.slice (a) m cap),.int .i64 120]) (by simp[results,Tryz.results60,go_sem,q0,q1,q2,q3,q4,q5,q6,q7,q8]) rfl ⟨?_,hB9.bl (HF.o).bl (by omega)⟩;exact⟨_,rfl,by rw[HZ3.o]⟩
    ·have gn:(n==[115,117,109])=false:=by simpa[c1m] using hn
     have HZ3:=aB (HZ2.o.trans (if_neg (fun h=>hn h.1)));have HZ5:=aB (fun(h:sumssD args=true)=>HZ3.o.trans (if_pos h));by_cases hc:n=gX
     ·have gc:(n==[99,111,117,110,116])=true:=by rw[hc];rfl
      have HZ4:=aB (fun(h:sumssD args=false)=>HZ3.o.trans ((if_neg (by rw[h];decide)).trans (by rw[if_pos (.inr hc)])));clear hn hc HZ2 HZ3;go_wp2_with fail;go_loopw [10] (fun i w6=>∃q:Nat,q<=m/\i= .int .i64 (q:Int)/\Hid (sumssD args=sumssD (args.drop q))/\Hid (TyF (cellsB k t v1 v2 v3 p o n (.slice a m cap)) W w6)) (fun i _=>m-(intOf i).toNat)
      case atStart=>exact⟨0,dL _,rfl,rfl,HF.o⟩
      case round=>
       clear HF g0 g1 g2 g3 g4 g5 g6 g7 g8;obtain⟨q,hq,rfl,HS,HF6⟩:=hrel;obtain⟨g0,g1,g2,g3,g4,g5,g6,g7,g8⟩:=nine HF6.o.x;by_cases hlt:q<m
       ·obtain⟨b,off,s,rfl,-,hbl,h8,hr⟩:=HC.o q (by rw[HM.o];exact hlt);have HY:=aB (HSM.o _ (dS (by rw[HM.o];exact hlt:q<args.length)));have HDj:=aB (HS.o.trans (sumssD_drop (by rw[HM.o];exact hlt)));have HRD:=aB (hr.bl HF6.o.bl);obtain⟨e0,e1,e2,e3,e4,e5,e6,e7,e8⟩:=(h8.keep (HF6.o.bl.block b hbl)).nine;clear h8 hr;generalize hy:args[q]'(by rw[HM.o];exact hlt)=y at *;clear hy;obtain⟨k',t',⟨v1',v2',v3'⟩,pt',o',nm',args'⟩:=y;simp only[Bd.k,Bd.t,Bd.v,Bd.p,Bd.o,Bd.n] at e0 e1 e2 e3 e4 e5 e6 e7;have HRE:=aB (show ReadsD _ (.mk k' t' (v1',v2',v3') pt' o' nm' args') (BdV k' t' (v1',v2',v3') pt' o' nm' s) from⟨s,rfl,HRD.o⟩);have hlt':(q:Int)<(m:Int):=(by omega);clear HC HSM;go_wp2_with fail;refine(HY.o _ _ HRE.o).mono ?_;rintro e w7 ⟨rfl,hb7⟩;have HF7:=aB (HF6.o.call hb7);clear hb7 e0 e1 e2 e3 e4 e5 e6 e7 e8 g0 g1 g2 g3 g4 g5 g6 g7 g8;cases hs:sumsD (.mk k' t' (v1',v2',v3') pt' o' nm' args')
        ·have HN:=aB (HDj.o.trans (by rw[hs];rfl):sumssD args=sumssD (args.drop (q+1)));clear hs;go_wp2;go_roundw
         case rel=>exact⟨q+1,by omega,by go_num,HN.o,HF7.o⟩
         case measure=>simp[intOf];omega
        ·have HN:=aB (HDj.o.trans (by rw[hs];rfl):sumssD args=true);clear hs;obtain⟨g0,g1,g2,g3,g4,g5,g6,g7,g8⟩:=nine (HF7.o).x;go_wp2_with (refine bA (g:=W.heap.size+1) (i:=0) rfl rfl rfl rfl [.int .i64 k,.int .i64 t,.int .i64 v1,.int .i64 v2,S v3,.int .i64 p,.int .i64 o,S n,.slice ((some ⟨b,off,none⟩)) m cap] (HF7.o).r rfl rfl bdInfo rfl ?_)
         intro w9 hB9 hX9;obtain⟨q0,q1,q2,q3,q4,q5,q6,q7,q8⟩:=nine hX9;go_wp2;refine bodyPost_ret (v:= .tuple #[BdV k t (v1,v2,v3) p o n (.slice ((some ⟨b,off,none⟩)) m cap),.int .i64 302]) (by simp[results,Tryz.results60,go_sem,q0,q1,q2,q3,q4,q5,q6,q7,q8]) rfl ⟨?_,hB9.bl (HF7.o).bl (by omega)⟩;exact⟨_,rfl,by rw[HZ5.o HN.o]⟩
       ·obtain rfl:m=q:=by omega
        have HS0:=aB (HS.o.trans (by rw[List.drop_of_length_le (by rw[HM.o];exact aH _)];rfl):sumssD args=false);have hge2:¬((m:Int)<(m:Int)):=(by omega);clear HC HSM;go_wp2_with (refine bA (g:=W.heap.size) (i:=1) rfl rfl rfl rfl [.int .i64 k,.int .i64 all,.int .i64 v1,.int .i64 v2,S v3,.int .i64 p,.int .i64 o,S n,.slice (a) m cap] (HF6.o).x rfl rfl tyInfo1 rfl ?_)
        intro w7 hBs hXs;have HF7:=aB ((HF6.o).but hBs hXs);clear hBs hXs;clear g0 g1 g2 g3 g4 g5 g6 g7 g8;obtain⟨g0,g1,g2,g3,g4,g5,g6,g7,g8⟩:=nine HF7.o.x;go_wp2_with (refine bA (g:=W.heap.size) (i:=1) rfl rfl rfl rfl [.int .i64 k,.int .i64 2,.int .i64 v1,.int .i64 v2,S v3,.int .i64 p,.int .i64 o,S n,.slice (a) m cap] (HF7.o).x rfl rfl tyInfo1 rfl ?_)
        intro w8 hBs hXs;have HF8:=aB ((HF7.o).but hBs hXs);clear hBs hXs;clear g0 g1 g2 g3 g4 g5 g6 g7 g8;obtain⟨g0,g1,g2,g3,g4,g5,g6,g7,g8⟩:=nine (HF8.o).x;go_wp2_with (refine bA (g:=W.heap.size+1) (i:=0) rfl rfl rfl rfl [.int .i64 k,.int .i64 2,.int .i64 v1,.int .i64 v2,S v3,.int .i64 p,.int .i64 o,S n,.slice (a) m cap] (HF8.o).r rfl rfl bdInfo rfl ?_)
        intro w9 hB9 hX9;obtain⟨q0,q1,q2,q3,q4,q5,q6,q7,q8⟩:=nine hX9;go_wp2;refine bodyPost_ret (v:= .tuple #[BdV k 2 (v1,v2,v3) p o n (.slice (a) m cap),.int .i64 0]) (by simp[results,Tryz.results60,go_sem,q0,q1,q2,q3,q4,q5,q6,q7,q8]) rfl ⟨?_,hB9.bl (HF8.o).bl (by omega)⟩;exact⟨_,rfl,by rw[HZ4.o HS0.o]⟩
     ·have gc:(n==[99,111,117,110,116])=false:=by simpa[gX] using hc
      have HZ4:=aB (fun(h:sumssD args=false)=>HZ3.o.trans ((if_neg (by rw[h];decide)).trans (by rw[if_neg (fun h=>h.elim hn hc)])));clear hn hc HZ2 HZ3;go_wp2_with fail;go_loopw [10] (fun i w6=>∃q:Nat,q<=m/\i= .int .i64 (q:Int)/\Hid (sumssD args=sumssD (args.drop q))/\Hid (TyF (cellsB k t v1 v2 v3 p o n (.slice a m cap)) W w6)) (fun i _=>m-(intOf i).toNat)
      case atStart=>exact⟨0,dL _,rfl,rfl,HF.o⟩
      case round=>
       clear HF g0 g1 g2 g3 g4 g5 g6 g7 g8;obtain⟨q,hq,rfl,HS,HF6⟩:=hrel;obtain⟨g0,g1,g2,g3,g4,g5,g6,g7,g8⟩:=nine HF6.o.x;by_cases hlt:q<m
       ·obtain⟨b,off,s,rfl,-,hbl,h8,hr⟩:=HC.o q (by rw[HM.o];exact hlt);have HY:=aB (HSM.o _ (dS (by rw[HM.o];exact hlt:q<args.length)));have HDj:=aB (HS.o.trans (sumssD_drop (by rw[HM.o];exact hlt)));have HRD:=aB (hr.bl HF6.o.bl);obtain⟨e0,e1,e2,e3,e4,e5,e6,e7,e8⟩:=(h8.keep (HF6.o.bl.block b hbl)).nine;clear h8 hr;generalize hy:args[q]'(by rw[HM.o];exact hlt)=y at *;clear hy;obtain⟨k',t',⟨v1',v2',v3'⟩,pt',o',nm',args'⟩:=y;simp only[Bd.k,Bd.t,Bd.v,Bd.p,Bd.o,Bd.n] at e0 e1 e2 e3 e4 e5 e6 e7;have HRE:=aB (show ReadsD _ (.mk k' t' (v1',v2',v3') pt' o' nm' args') (BdV k' t' (v1',v2',v3') pt' o' nm' s) from⟨s,rfl,HRD.o⟩);have hlt':(q:Int)<(m:Int):=(by omega);clear HC HSM;go_wp2_with fail;refine(HY.o _ _ HRE.o).mono ?_;rintro e w7 ⟨rfl,hb7⟩;have HF7:=aB (HF6.o.call hb7);clear hb7 e0 e1 e2 e3 e4 e5 e6 e7 e8 g0 g1 g2 g3 g4 g5 g6 g7 g8;cases hs:sumsD (.mk k' t' (v1',v2',v3') pt' o' nm' args')
        ·have HN:=aB (HDj.o.trans (by rw[hs];rfl):sumssD args=sumssD (args.drop (q+1)));clear hs;go_wp2;go_roundw
         case rel=>exact⟨q+1,by omega,by go_num,HN.o,HF7.o⟩
         case measure=>simp[intOf];omega
        ·have HN:=aB (HDj.o.trans (by rw[hs];rfl):sumssD args=true);clear hs;obtain⟨g0,g1,g2,g3,g4,g5,g6,g7,g8⟩:=nine (HF7.o).x;go_wp2_with (refine bA (g:=W.heap.size+1) (i:=0) rfl rfl rfl rfl [.int .i64 k,.int .i64 t,.int .i64 v1,.int .i64 v2,S v3,.int .i64 p,.int .i64 o,S n,.slice ((some ⟨b,off,none⟩)) m cap] (HF7.o).r rfl rfl bdInfo rfl ?_)
         intro w9 hB9 hX9;obtain⟨q0,q1,q2,q3,q4,q5,q6,q7,q8⟩:=nine hX9;go_wp2;refine bodyPost_ret (v:= .tuple #[BdV k t (v1,v2,v3) p o n (.slice ((some ⟨b,off,none⟩)) m cap),.int .i64 302]) (by simp[results,Tryz.results60,go_sem,q0,q1,q2,q3,q4,q5,q6,q7,q8]) rfl ⟨?_,hB9.bl (HF7.o).bl (by omega)⟩;exact⟨_,rfl,by rw[HZ5.o HN.o]⟩
       ·obtain rfl:m=q:=by omega
        have HS0:=aB (HS.o.trans (by rw[List.drop_of_length_le (by rw[HM.o];exact aH _)];rfl):sumssD args=false);have hge2:¬((m:Int)<(m:Int)):=(by omega);clear HC HSM;go_wp2_with (refine bA (g:=W.heap.size) (i:=1) rfl rfl rfl rfl [.int .i64 k,.int .i64 all,.int .i64 v1,.int .i64 v2,S v3,.int .i64 p,.int .i64 o,S n,.slice (a) m cap] (HF6.o).x rfl rfl tyInfo1 rfl ?_)
        intro w7 hBs hXs;have HF7:=aB ((HF6.o).but hBs hXs);clear hBs hXs;clear g0 g1 g2 g3 g4 g5 g6 g7 g8;obtain⟨g0,g1,g2,g3,g4,g5,g6,g7,g8⟩:=nine (HF7.o).x;go_wp2_with (refine bA (g:=W.heap.size+1) (i:=0) rfl rfl rfl rfl [.int .i64 k,.int .i64 all,.int .i64 v1,.int .i64 v2,S v3,.int .i64 p,.int .i64 o,S n,.slice (a) m cap] (HF7.o).r rfl rfl bdInfo rfl ?_)
        intro w9 hB9 hX9;obtain⟨q0,q1,q2,q3,q4,q5,q6,q7,q8⟩:=nine hX9;go_wp2;refine bodyPost_ret (v:= .tuple #[BdV k all (v1,v2,v3) p o n (.slice (a) m cap),.int .i64 0]) (by simp[results,Tryz.results60,go_sem,q0,q1,q2,q3,q4,q5,q6,q7,q8]) rfl ⟨?_,hB9.bl (HF7.o).bl (by omega)⟩;exact⟨_,rfl,by rw[HZ4.o HS0.o]⟩
   have g5:(k==5)=false:=(by simpa using h5);have HZ2:=aB (HZ.o.symm.trans (type_oth HH.o.1 h1 h3 h4 h5));clear h1 h3 h4 h5 HC HSM hk4 HZ HH HI;obtain⟨g0,g1,g2,g3,g4,g5,g6,g7,g8⟩:=nine (HF.o).x;go_wp2_with (refine bA (g:=W.heap.size+1) (i:=0) rfl rfl rfl rfl [.int .i64 k,.int .i64 t,.int .i64 v1,.int .i64 v2,S v3,.int .i64 p,.int .i64 o,S n,.slice (a) m cap] (HF.o).r rfl rfl bdInfo rfl ?_)
   intro w9 hB9 hX9;obtain⟨q0,q1,q2,q3,q4,q5,q6,q7,q8⟩:=nine hX9;go_wp2;refine bodyPost_ret (v:= .tuple #[BdV k t (v1,v2,v3) p o n (.slice (a) m cap),.int .i64 0]) (by simp[results,Tryz.results60,go_sem,q0,q1,q2,q3,q4,q5,q6,q7,q8]) rfl ⟨?_,hB9.bl (HF.o).bl (by omega)⟩;exact⟨_,rfl,by rw[HZ2.o]⟩
end
end Go.Proofs.YtkimpcmkminffaaGreatDoor
