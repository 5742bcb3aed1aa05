/- Texts beside the shared ones. -/
import Derived.Test.YtkimpcmkminffaaGreatDoorWX0
import Derived.Test.YtkimpcmkminffaaGreatDoorWM2
namespace Go.Proofs.YtkimpcmkminffaaGreatDoor
open Go.RowKit
open _root_.Go.Act renaming put->aK
open _root_.Array renaming getElem?_eq_some_iff->aC
open _root_.Bool renaming and_eq_true->aQ,eq_iff_iff->kC,false_and->pK,false_eq_true->fM,true_and->rC
open _root_.Go.Lib renaming cell_of_heap->aG,frozen_of_heap->aJ,hid->aB
open _root_.List renaming drop_eq_getElem_cons->aZ,drop_length->dO,getElem_mem->dS,length_cons->aX,setIfInBounds_toArray->aA,set_cons_succ->aF,set_cons_zero->aD
open _root_.Nat renaming le_refl->aH,zero_le->dL
open NoPanic renaming normal->bF
set_option maxRecDepth 100000
set_option maxHeartbeats 16000000
section
def kindR(x:Bd):Int×Int:=
 if x.k=1 then(x.v.1,0) else if x.k=2 then(x.t,0) else if x.k=3 then makesO x.o (x.args.map Bd.t)
 else if x.k=4 then(allT true 0 (x.args.map Bd.t)) else sumT x.n (allT true 0 (x.args.map Bd.t)).1 (allT true 0 (x.args.map Bd.t)).2 (sumssD x.args)
theorem tyInfo1:(Tryz.prog.info? 23).map (·.size)=some 1:=by kernel_rfl
theorem enters_buvalued(args:Array Value)(w:World):(callFunc 69 args).run Tryz.prog w= .ok (.enter 69 args) w:=by simp[go_sem]
theorem enters_bkinds2(args:Array Value)(w:World):(callFunc 71 args).run Tryz.prog w= .ok (.enter 71 args) w:=by simp[go_sem]
theorem enters_budone(args:Array Value)(w:World):(callFunc 73 args).run Tryz.prog w= .ok (.enter 73 args) w:=by simp[go_sem]
theorem enters_bucommon(args:Array Value)(w:World):(callFunc 75 args).run Tryz.prog w= .ok (.enter 75 args) w:=by simp[go_sem]
theorem enters_busummed(args:Array Value)(w:World):(callFunc 77 args).run Tryz.prog w= .ok (.enter 77 args) w:=by simp[go_sem]
theorem typed_fun(x:Bd)(hk:1<=x.k/\x.k<=5)(hp:partsD x<=1000000):∃g h:FuncId,(∀(w:World) (r:Nat),w.heap[r]?=some (.map kindAll 5)->(Instr.lookup 96 (.map (some r)) (.int .i64 x.k) false).run Tryz.prog w= .ok (kinV g h) w)/\
  (∀(args:Array Value) (w:World),(callFunc g args).run Tryz.prog w= .ok (.enter g args) w)/\∀(W:World) (v:Value),ReadsD W x v->Calls Tryz.prog g #[v] W fun e w'=>e=resT (kindR x)/\Bl W w':=by
 have hl:x.args.length<=1000000:=(by have:=partsD_len x;omega);have h5:x.k=1\/x.k=2\/x.k=3\/x.k=4\/x.k=5:=(by omega);rcases h5 with h|h|h|h|h
 ·have e:kindR x=(x.v.1,0):=by unfold kindR;rw[if_pos h]
  rw[h,e];refine⟨_,_,fun w r hb=>kind_at1 hb,enters_buvalued,fun W v hv=>?_⟩;obtain⟨s,rfl,-⟩:=hv;exact buvalued_any x.k x.t x.v.1 x.v.2.1 x.p x.o x.v.2.2 x.n s W
 ·have e:kindR x=(x.t,0):=by unfold kindR;rw[if_neg (by omega),if_pos h]
  rw[h,e];refine⟨_,_,fun w r hb=>kind_at2 hb,enters_bkinds2,fun W v hv=>?_⟩;obtain⟨s,rfl,-⟩:=hv;exact bkinds2_any x.k x.t x.v.1 x.v.2.1 x.p x.o x.v.2.2 x.n s W
 ·have e:kindR x=makesO x.o (x.args.map Bd.t):=by unfold kindR;rw[if_neg (by omega),if_neg (by omega),if_pos h]
  rw[h,e];exact⟨_,_,fun w r hb=>kind_at3 hb,enters_budone,fun W v hv=>budone_any x hl W v hv⟩
 ·have e:kindR x=allT true 0 (x.args.map Bd.t):=by unfold kindR;rw[if_neg (by omega),if_neg (by omega),if_neg (by omega),if_pos h]
  rw[h,e];exact⟨_,_,fun w r hb=>kind_at4 hb,enters_bucommon,fun W v hv=>bucommon_any x hl W v hv⟩
 ·have e:kindR x=sumT x.n (allT true 0 (x.args.map Bd.t)).1 (allT true 0 (x.args.map Bd.t)).2 (sumssD x.args):=by unfold kindR;rw[if_neg (by omega),if_neg (by omega),if_neg (by omega),if_neg (by omega)]
  rw[h,e];exact⟨_,_,fun w r hb=>kind_at5 hb,enters_busummed,fun W v hv=>busummed_any x hp W v hv⟩
theorem butyped_any(x:Bd)(hk:1<=x.k/\x.k<=5)(hp:partsD x<=1000000)(W:World)(s:Value)(hv:ReadsDL (fun _=>True) W s x.args):
  Calls Tryz.prog 56 #[BdV x.k x.t x.v x.p x.o x.n s] W fun e w'=>e=(if(kindR x).2=0 then .returned (BdV x.k (kindR x).1 x.v x.p x.o x.n s) else panE (kindR x).2)/\Bl W w':=by
 obtain⟨g,h,hlk,hen,hc⟩:=typed_fun x hk hp;have HC:Hid (∀W',Bl W W'->Calls Tryz.prog g #[BdV x.k x.t x.v x.p x.o x.n s] W' fun e w'=>e=resT ((kindR x).1,(kindR x).2)/\Bl W' w'):=fun W' hb=>hc W' _ ⟨s,rfl,hv.bl hb⟩;have HLK:=aB hlk;have hfl:∀w,Sem.run Tryz.prog (Instr.field 95 (kinV g h) 0) w= .ok (.func (.func g) #[] #[]) w:=fun _=>rfl;generalize (kindR x).1=r at *;generalize (kindR x).2=c at *;obtain⟨Z,HZ⟩:∃Z,Hid ((if c=0 then .returned (BdV x.k r x.v x.p x.o x.n s) else panE c)=Z):=⟨_,rfl⟩
 rw[HZ.o];clear hc hlk hk hp;obtain⟨a,cap,rfl,-⟩:=hv.shape;clear hv;obtain⟨k,t,⟨v1,v2,v3⟩,p,o,n,args⟩:=x;simp only[Bd.k,Bd.t,Bd.v,Bd.p,Bd.o,Bd.n,Bd.args] at *;generalize args.length=m at *;have HX0:=aB (aN W (.cells (cellsB k t v1 v2 v3 p o n (.slice a m cap)) 73));have HX1:=aB (keep_b HX0.o ((Bl.refl _).alloc (.cells (cellsB 0 0 0 0 [] 0 0 [] (.slice none 0 0)) 30)));have HR0:=aB (aV (W.alloc (.cells (cellsB k t v1 v2 v3 p o n (.slice a m cap)) 73)) (.cells (cellsB 0 0 0 0 [] 0 0 [] (.slice none 0 0)) 30) (k:=W.heap.size+1) (by simp));have HB0:=aB (((Bl.refl W).alloc (.cells (cellsB k t v1 v2 v3 p o n (.slice a m cap)) 73)).alloc (.cells (cellsB 0 0 0 0 [] 0 0 [] (.slice none 0 0)) 30));go_enter Tryz.func56,Tryz.ntmps56;go_wp2_with fail;refine(bM (fun B=>B.cell? ⟨W.heap.size,0,none⟩=some (.int .i64 k)) ((.take 1 (.take 2 (.take 3 (.two 0 6 (.two 4 6 (.take 5 (.one 6 (.one 7 (.take 8 (.take 9 (.one 10 .done)))))) (.one 4 (.take 5 (.one 7 (.take 8 (.take 9 (.one 10 .done))))))) (.one 0 (.one 4 (.take 5 (.one 7 (.take 8 (.take 9 (.one 10 .done)))))))))))) (by kernel_rfl) (by kernel_rfl) (by kernel_rfl) (fun c a d v w h=>by cases d<;>exact h) ((Bl.cell ((Bl.refl _).drew) (nine HX1.o).1)) ?_);intro wd HWD hY;iterate 3 (refine aI rfl (by rfl) (by intro w hSw;(try dsimp only at hSw);have c0:=hSw;go_simp;(try(first |with_reducible rfl|rfl))) ?_;(try simp only[aK,aA,aD,aF]))
 refine sZ ?_ ?_
 focus
  refine aL rfl (fun K hK=>?_);go_simp;((with_reducible refine(bkinds_any _).mono ?_);rintro e w3 ⟨rfl,rfl⟩);go_wp2_with fail;refine hK.o _ _ ((by first |exact Bl.cell hb6 hY|exact Bl.cell ((Bl.refl _).alloc _) hY|exact hY|(rw[aG hX7];rfl))) ?_;clear hY hK K;intro hY;refine sZ ?_ ?_
  focus
   have hlook:=HLK.o (wd.alloc (.map kindAll 5)) wd.heap.size (aN wd _);refine aL rfl (fun K hK=>?_);go_simp;refine hK.o _ _ (hY) ?_;clear hY hK K;intro hY;refine aI rfl (by rfl) (by intro w hSw;(try dsimp only at hSw);have c0:=hSw;go_simp;(try(first |with_reducible rfl|rfl))) ?_;(try simp only[aK,aA,aD,aF])
   obtain⟨e0,e1,e2,e3,e4,e5,e6,e7,e8⟩:=nine (keep_b HX1.o HWD.o);obtain⟨f0,f1,f2,f3,f4,f5,f6,f7,f8⟩:=nine (keep_b HX1.o (HWD.o.alloc (.map kindAll 5)));refine aL rfl (fun K hK=>?_);go_simp;refine hK.o _ _ (hY) ?_;clear hY hK K;intro hY;refine aL rfl (fun K hK=>?_);go_simp;(refine(HC.o _ ((HB0.o.call HWD.o).alloc _)).mono ?_;rintro e w6 ⟨he,hb6⟩;have HX6:=aB (keep_b HX1.o ((HWD.o.alloc (.map kindAll 5)).call hb6));have HR6:=aB (keep_b HR0.o ((HWD.o.alloc (.map kindAll 5)).call hb6));have HB6:=aB (((HB0.o.call HWD.o).alloc (.map kindAll 5)).call hb6);rcases resT_ways r c with⟨hc,hh⟩|⟨hc,hh⟩<;>(rw[hh] at he;subst he;have HCC:=aB hc;clear hh hc);rotate_left;(· go_wp2;exact⟨rfl,by rw[<-HZ.o,if_neg HCC.o],HB6.o⟩));go_wp2_with fail;refine hK.o _ _ ((by first |exact Bl.cell hb6 hY|exact Bl.cell ((Bl.refl _).alloc _) hY|exact hY|(rw[aG hX7];rfl))) ?_;clear hY hK K;intro hY;iterate 2 (refine aI rfl (by rfl) (by intro w hSw;(try dsimp only at hSw);have c0:=hSw;go_simp;(try(first |with_reducible rfl|rfl))) ?_;(try simp only[aK,aA,aD,aF]))
   refine aL rfl (fun K hK=>?_);rw[if_pos (by rfl)];refine bC rfl rfl rfl ([.int .i64 k,.int .i64 r,.int .i64 v1,.int .i64 v2,S v3,.int .i64 p,.int .i64 o,S n,.slice a m cap]) HX6.o rfl rfl tyInfo1 rfl ?_;intro w7 hB7 hX7;refine hK.o _ _ ((by first |exact Bl.cell hB76 hY|exact Bl.cell ((Bl.refl _).alloc _) hY|exact hY|(rw[aG hX7];rfl))) ?_;clear hY hK K;intro hY;(try simp only[aK])
   refine fO ?_;obtain⟨e0,e1,e2,e3,e4,e5,e6,e7,e8⟩:=nine hX7;go_wp2_with (refine bA rfl rfl rfl rfl [.int .i64 k,.int .i64 r,.int .i64 v1,.int .i64 v2,S v3,.int .i64 p,.int .i64 o,S n,.slice a m cap] ((hB7.same _ (by omega)).trans HR6.o) rfl rfl bdInfo rfl ?_)
   intro w9 hB9 hX9;go_wp2;exact bodyPost_ret (v:=BdV k r (v1,v2,v3) p o n (.slice a m cap)) (results_cell_row (p:=2) (ty:=30) rfl _ _ (W.heap.size+1) 30 _ (0,0) _ rfl hX9 Tryz.underlying30 rfl bdInfo) rfl ⟨by rw[<-HZ.o,if_pos HCC.o],hB9.bl (hB7.bl HB6.o (aH _)) (by omega)⟩
  rotate_left 1
  focus
   obtain⟨e0,e1,e2,e3,e4,e5,e6,e7,e8⟩:=nine (keep_b HX1.o HWD.o);obtain⟨f0,f1,f2,f3,f4,f5,f6,f7,f8⟩:=nine (keep_b HX1.o (HWD.o.alloc (.map kindAll 5)));refine aL rfl (fun K hK=>?_);go_simp;refine hK.o _ _ (hY) ?_;clear hY hK K;intro hY;have hlook:=HLK.o (wd.alloc (.map kindAll 5)) wd.heap.size (aN wd _);refine aL rfl (fun K hK=>?_);go_simp;refine hK.o _ _ (hY) ?_;clear hY hK K;intro hY;refine aI rfl (by rfl) (by intro w hSw;(try dsimp only at hSw);have c0:=hSw;go_simp;(try(first |with_reducible rfl|rfl))) ?_;(try simp only[aK,aA,aD,aF])
   refine aL rfl (fun K hK=>?_);go_simp;(refine(HC.o _ ((HB0.o.call HWD.o).alloc _)).mono ?_;rintro e w6 ⟨he,hb6⟩;have HX6:=aB (keep_b HX1.o ((HWD.o.alloc (.map kindAll 5)).call hb6));have HR6:=aB (keep_b HR0.o ((HWD.o.alloc (.map kindAll 5)).call hb6));have HB6:=aB (((HB0.o.call HWD.o).alloc (.map kindAll 5)).call hb6);rcases resT_ways r c with⟨hc,hh⟩|⟨hc,hh⟩<;>(rw[hh] at he;subst he;have HCC:=aB hc;clear hh hc);rotate_left;(· go_wp2;exact⟨rfl,by rw[<-HZ.o,if_neg HCC.o],HB6.o⟩));go_wp2_with fail;refine hK.o _ _ ((by first |exact Bl.cell hb6 hY|exact Bl.cell ((Bl.refl _).alloc _) hY|exact hY|(rw[aG hX7];rfl))) ?_;clear hY hK K;intro hY;iterate 2 (refine aI rfl (by rfl) (by intro w hSw;(try dsimp only at hSw);have c0:=hSw;go_simp;(try(first |with_reducible rfl|rfl))) ?_;(try simp only[aK,aA,aD,aF]))
   refine aL rfl (fun K hK=>?_);rw[if_pos (by rfl)];refine bC rfl rfl rfl ([.int .i64 k,.int .i64 r,.int .i64 v1,.int .i64 v2,S v3,.int .i64 p,.int .i64 o,S n,.slice a m cap]) HX6.o rfl rfl tyInfo1 rfl ?_;intro w7 hB7 hX7;refine hK.o _ _ ((by first |exact Bl.cell hB76 hY|exact Bl.cell ((Bl.refl _).alloc _) hY|exact hY|(rw[aG hX7];rfl))) ?_;clear hY hK K;intro hY;(try simp only[aK])
   refine fO ?_;obtain⟨e0,e1,e2,e3,e4,e5,e6,e7,e8⟩:=nine hX7;go_wp2_with (refine bA rfl rfl rfl rfl [.int .i64 k,.int .i64 r,.int .i64 v1,.int .i64 v2,S v3,.int .i64 p,.int .i64 o,S n,.slice a m cap] ((hB7.same _ (by omega)).trans HR6.o) rfl rfl bdInfo rfl ?_)
   intro w9 hB9 hX9;go_wp2;exact bodyPost_ret (v:=BdV k r (v1,v2,v3) p o n (.slice a m cap)) (results_cell_row (p:=2) (ty:=30) rfl _ _ (W.heap.size+1) 30 _ (0,0) _ rfl hX9 Tryz.underlying30 rfl bdInfo) rfl ⟨by rw[<-HZ.o,if_pos HCC.o],hB9.bl (hB7.bl HB6.o (aH _)) (by omega)⟩
 rotate_left 2
 focus
  obtain⟨e0,e1,e2,e3,e4,e5,e6,e7,e8⟩:=nine (keep_b HX1.o HWD.o);obtain⟨f0,f1,f2,f3,f4,f5,f6,f7,f8⟩:=nine (keep_b HX1.o (HWD.o.alloc (.map kindAll 5)));refine aL rfl (fun K hK=>?_);go_simp;refine hK.o _ _ (hY) ?_;clear hY hK K;intro hY;refine aL rfl (fun K hK=>?_);go_simp;((with_reducible refine(bkinds_any _).mono ?_);rintro e w3 ⟨rfl,rfl⟩);go_wp2_with fail;refine hK.o _ _ ((by first |exact Bl.cell hb6 hY|exact Bl.cell ((Bl.refl _).alloc _) hY|exact hY|(rw[aG hX7];rfl))) ?_;clear hY hK K;intro hY;have hlook:=HLK.o (wd.alloc (.map kindAll 5)) wd.heap.size (aN wd _);refine aL rfl (fun K hK=>?_);go_simp;refine hK.o _ _ (hY) ?_;clear hY hK K;intro hY;refine aI rfl (by rfl) (by intro w hSw;(try dsimp only at hSw);have c0:=hSw;go_simp;(try(first |with_reducible rfl|rfl))) ?_;(try simp only[aK,aA,aD,aF])
  refine aL rfl (fun K hK=>?_);go_simp;(refine(HC.o _ ((HB0.o.call HWD.o).alloc _)).mono ?_;rintro e w6 ⟨he,hb6⟩;have HX6:=aB (keep_b HX1.o ((HWD.o.alloc (.map kindAll 5)).call hb6));have HR6:=aB (keep_b HR0.o ((HWD.o.alloc (.map kindAll 5)).call hb6));have HB6:=aB (((HB0.o.call HWD.o).alloc (.map kindAll 5)).call hb6);rcases resT_ways r c with⟨hc,hh⟩|⟨hc,hh⟩<;>(rw[hh] at he;subst he;have HCC:=aB hc;clear hh hc);rotate_left;(· go_wp2;exact⟨rfl,by rw[<-HZ.o,if_neg HCC.o],HB6.o⟩));go_wp2_with fail;refine hK.o _ _ ((by first |exact Bl.cell hb6 hY|exact Bl.cell ((Bl.refl _).alloc _) hY|exact hY|(rw[aG hX7];rfl))) ?_;clear hY hK K;intro hY;iterate 2 (refine aI rfl (by rfl) (by intro w hSw;(try dsimp only at hSw);have c0:=hSw;go_simp;(try(first |with_reducible rfl|rfl))) ?_;(try simp only[aK,aA,aD,aF]))
  refine aL rfl (fun K hK=>?_);rw[if_pos (by rfl)];refine bC rfl rfl rfl ([.int .i64 k,.int .i64 r,.int .i64 v1,.int .i64 v2,S v3,.int .i64 p,.int .i64 o,S n,.slice a m cap]) HX6.o rfl rfl tyInfo1 rfl ?_;intro w7 hB7 hX7;refine hK.o _ _ ((by first |exact Bl.cell hB76 hY|exact Bl.cell ((Bl.refl _).alloc _) hY|exact hY|(rw[aG hX7];rfl))) ?_;clear hY hK K;intro hY;(try simp only[aK])
  refine fO ?_;obtain⟨e0,e1,e2,e3,e4,e5,e6,e7,e8⟩:=nine hX7;go_wp2_with (refine bA rfl rfl rfl rfl [.int .i64 k,.int .i64 r,.int .i64 v1,.int .i64 v2,S v3,.int .i64 p,.int .i64 o,S n,.slice a m cap] ((hB7.same _ (by omega)).trans HR6.o) rfl rfl bdInfo rfl ?_)
  intro w9 hB9 hX9;go_wp2;exact bodyPost_ret (v:=BdV k r (v1,v2,v3) p o n (.slice a m cap)) (results_cell_row (p:=2) (ty:=30) rfl _ _ (W.heap.size+1) 30 _ (0,0) _ rfl hX9 Tryz.underlying30 rfl bdInfo) rfl ⟨by rw[<-HZ.o,if_pos HCC.o],hB9.bl (hB7.bl HB6.o (aH _)) (by omega)⟩
end
section
theorem bare1_no(t v1 v2 p o:Int)(v3 n:List UInt8)(a:Option Addr)(m cap:Nat)(c:Int)(h:chk v1 v2 v3≠0)(W:World):
  Calls Tryz.prog 67 #[BdV 1 t (v1,v2,v3) p o n (.slice a m cap),.int .i64 c] W fun e w'=>e= .returned (.tuple #[BdV 1 t (v1,v2,v3) 0 0 [] (.slice a m cap),.bool false])/\Bl W w':=by
 have HX0:=aB (keep_b (aN W (.cells (cellsB 1 t v1 v2 v3 p o n (.slice a m cap)) 73)) (((Bl.refl _).alloc (.cells (cellsB 0 0 0 0 [] 0 0 [] (.slice none 0 0)) 30)).alloc (.cells (cellsB 1 t v1 v2 v3 0 0 [] (.slice a m cap)) 30)));have HR0:=aB (keep_b (aV (W.alloc (.cells (cellsB 1 t v1 v2 v3 p o n (.slice a m cap)) 73)) (.cells (cellsB 0 0 0 0 [] 0 0 [] (.slice none 0 0)) 30) (k:=W.heap.size+1) (by simp)) ((Bl.refl _).alloc (.cells (cellsB 1 t v1 v2 v3 0 0 [] (.slice a m cap)) 30)));have HO0:=aB (aV ((W.alloc (.cells (cellsB 1 t v1 v2 v3 p o n (.slice a m cap)) 73)).alloc (.cells (cellsB 0 0 0 0 [] 0 0 [] (.slice none 0 0)) 30)) (.cells (cellsB 1 t v1 v2 v3 0 0 [] (.slice a m cap)) 30) (k:=W.heap.size+1+1) (by simp));have HB0:=aB ((((Bl.refl W).alloc (.cells (cellsB 1 t v1 v2 v3 p o n (.slice a m cap)) 73)).alloc (.cells (cellsB 0 0 0 0 [] 0 0 [] (.slice none 0 0)) 30)).alloc (.cells (cellsB 1 t v1 v2 v3 0 0 [] (.slice a m cap)) 30));go_enter Tryz.func67,Tryz.ntmps67;go_wp2_with fail;obtain⟨w0,hw0⟩:∃w0,((W.alloc (.cells (cellsB 1 t v1 v2 v3 p o n (.slice a m cap)) 73)).alloc (.cells (cellsB 0 0 0 0 [] 0 0 [] (.slice none 0 0)) 30)).alloc (.cells (cellsB 1 t v1 v2 v3 0 0 [] (.slice a m cap)) 30)=w0:=⟨_,rfl⟩
 have hz0:w0.heap.size=W.heap.size+1+1+1:=(by rw[<-hw0];simp);rw[hw0] at HX0 HR0 HO0 HB0⊢;clear hw0;refine wp_region_noPanic (bM (fun B=>B.heap[W.heap.size]?=some (.cells (cellsB 1 t v1 v2 v3 p o n (.slice a m cap)) 73 (0,0))/\B.heap[W.heap.size+1+1]?=some (.cells (cellsB 1 t v1 v2 v3 0 0 [] (.slice a m cap)) 30 (0,0))) ((.take 0 (.take 1 (.take 2 (.take 3 (.one 4 (.take 5 (.take 6 (.take 7 (.take 8 (.take 9 (.take 10 (.take 11 (.take 12 (.one 13 (.take 14 .done)))))))))))))))) (by kernel_rfl) (by kernel_rfl) (by kernel_rfl) (fun _ _ _ _ _ h=>h) (⟨HX0.o,HO0.o⟩) ?_);intro wd HWD hY;iterate 4 (refine aI rfl (by rfl) (by intro w hSw;(try dsimp only at hSw);obtain⟨e0,e1,e2,e3,e4,e5,e6,e7,e8⟩:=nine hSw.1;obtain⟨f0,f1,f2,f3,f4,f5,f6,f7,f8⟩:=nine hSw.2;go_simp;(try(first |with_reducible rfl|rfl))) ?_;(try simp only[aK,aA,aD,aF]))
 refine aL rfl (fun K hK=>?_);go_simp;(refine(b7z v1 v2 v3 _).mono ?_;rintro e w4 ⟨rfl,hb4⟩;have g4:(chk v1 v2 v3==0)=false:=by simpa using h);go_wp2_with fail;refine hK.o _ _ ((by first |exact⟨keep_b hY.1 hb4,keep_b hY.2 hb4⟩|exact⟨(hB9.same _ (by omega)).trans hY.1,(hB9.same _ (by omega)).trans hY.2⟩)) ?_;clear hY hK K;intro hY;iterate 2 (refine aI rfl (by rfl) (by intro w hSw;(try dsimp only at hSw);obtain⟨e0,e1,e2,e3,e4,e5,e6,e7,e8⟩:=nine hSw.1;obtain⟨f0,f1,f2,f3,f4,f5,f6,f7,f8⟩:=nine hSw.2;go_simp;(try(first |with_reducible rfl|rfl))) ?_;(try simp only[aK,aA,aD,aF]))
 refine dK rfl (by rfl) ?_;(try simp only[aK,aA,aD,aF])
 refine dK rfl (by rfl) ?_;(try simp only[aK,aA,aD,aF])
 refine dK rfl (by rfl) ?_;(try simp only[aK,aA,aD,aF])
 refine dK rfl (by rfl) ?_;(try simp only[aK,aA,aD,aF])
 refine dK rfl (by rfl) ?_;(try simp only[aK,aA,aD,aF])
 refine aI rfl (by rfl) (by intro w hSw;(try dsimp only at hSw);obtain⟨e0,e1,e2,e3,e4,e5,e6,e7,e8⟩:=nine hSw.1;obtain⟨f0,f1,f2,f3,f4,f5,f6,f7,f8⟩:=nine hSw.2;go_simp;(try(first |with_reducible rfl|rfl))) ?_;(try simp only[aK,aA,aD,aF])
 refine aL rfl (fun K hK=>?_);rw[if_pos (by rfl)];refine bC rfl rfl rfl ([.int .i64 1,.int .i64 t,.int .i64 v1,.int .i64 v2,S v3,.int .i64 0,.int .i64 0,S [],.slice a m cap]) (keep_b HR0.o (HWD.o.call hb4)) rfl rfl bdInfo rfl ?_;intro w9 hB9 hX9;refine hK.o _ _ ((by first |exact⟨keep_b hY.1 hB94,keep_b hY.2 hB94⟩|exact⟨(hB9.same _ (by omega)).trans hY.1,(hB9.same _ (by omega)).trans hY.2⟩)) ?_;clear hY hK K;intro hY;(try simp only[aK])
 refine aI rfl (by rfl) (by intro w hSw;(try dsimp only at hSw);obtain⟨e0,e1,e2,e3,e4,e5,e6,e7,e8⟩:=nine hSw.1;obtain⟨f0,f1,f2,f3,f4,f5,f6,f7,f8⟩:=nine hSw.2;go_simp;(try(first |with_reducible rfl|rfl))) ?_;(try simp only[aK,aA,aD,aF])
 refine fO (bF ?_);obtain⟨q0,q1,q2,q3,q4,q5,q6,q7,q8⟩:=nine hX9;go_wp2;exact bodyPost_ret (v:= .tuple #[BdV 1 t (v1,v2,v3) 0 0 [] (.slice a m cap),.bool false]) (by simp[results,Tryz.results67,go_sem,q0,q1,q2,q3,q4,q5,q6,q7,q8]) rfl ⟨rfl,hB9.bl (HB0.o.call (HWD.o.call hb4)) (by omega)⟩
theorem bare1_yes(t v1 v2 p o:Int)(v3 n:List UInt8)(a:Option Addr)(m cap:Nat)(c:Int)(h:chk v1 v2 v3=0)(W:World):
  Calls Tryz.prog 67 #[BdV 1 t (v1,v2,v3) p o n (.slice a m cap),.int .i64 c] W fun e w'=>e= .returned (.tuple #[BdV 1 t (v1,v2,v3) 0 0 [] (.slice a m cap),.bool ((m:Int)==0)])/\Bl W w':=by
 have HX0:=aB (keep_b (aN W (.cells (cellsB 1 t v1 v2 v3 p o n (.slice a m cap)) 73)) (((Bl.refl _).alloc (.cells (cellsB 0 0 0 0 [] 0 0 [] (.slice none 0 0)) 30)).alloc (.cells (cellsB 1 t v1 v2 v3 0 0 [] (.slice a m cap)) 30)));have HR0:=aB (keep_b (aV (W.alloc (.cells (cellsB 1 t v1 v2 v3 p o n (.slice a m cap)) 73)) (.cells (cellsB 0 0 0 0 [] 0 0 [] (.slice none 0 0)) 30) (k:=W.heap.size+1) (by simp)) ((Bl.refl _).alloc (.cells (cellsB 1 t v1 v2 v3 0 0 [] (.slice a m cap)) 30)));have HO0:=aB (aV ((W.alloc (.cells (cellsB 1 t v1 v2 v3 p o n (.slice a m cap)) 73)).alloc (.cells (cellsB 0 0 0 0 [] 0 0 [] (.slice none 0 0)) 30)) (.cells (cellsB 1 t v1 v2 v3 0 0 [] (.slice a m cap)) 30) (k:=W.heap.size+1+1) (by simp));have HB0:=aB ((((Bl.refl W).alloc (.cells (cellsB 1 t v1 v2 v3 p o n (.slice a m cap)) 73)).alloc (.cells (cellsB 0 0 0 0 [] 0 0 [] (.slice none 0 0)) 30)).alloc (.cells (cellsB 1 t v1 v2 v3 0 0 [] (.slice a m cap)) 30));go_enter Tryz.func67,Tryz.ntmps67;go_wp2_with fail;obtain⟨w0,hw0⟩:∃w0,((W.alloc (.cells (cellsB 1 t v1 v2 v3 p o n (.slice a m cap)) 73)).alloc (.cells (cellsB 0 0 0 0 [] 0 0 [] (.slice none 0 0)) 30)).alloc (.cells (cellsB 1 t v1 v2 v3 0 0 [] (.slice a m cap)) 30)=w0:=⟨_,rfl⟩
 have hz0:w0.heap.size=W.heap.size+1+1+1:=(by rw[<-hw0];simp);rw[hw0] at HX0 HR0 HO0 HB0⊢;clear hw0;refine wp_region_noPanic (bM (fun B=>B.heap[W.heap.size]?=some (.cells (cellsB 1 t v1 v2 v3 p o n (.slice a m cap)) 73 (0,0))/\B.heap[W.heap.size+1+1]?=some (.cells (cellsB 1 t v1 v2 v3 0 0 [] (.slice a m cap)) 30 (0,0))) ((.take 0 (.take 1 (.take 2 (.take 3 (.one 4 (.take 5 (.take 6 (.take 7 (.take 8 (.take 9 (.take 10 (.take 11 (.take 12 (.one 13 (.take 14 .done)))))))))))))))) (by kernel_rfl) (by kernel_rfl) (by kernel_rfl) (fun _ _ _ _ _ h=>h) (⟨HX0.o,HO0.o⟩) ?_);intro wd HWD hY;iterate 4 (refine aI rfl (by rfl) (by intro w hSw;(try dsimp only at hSw);obtain⟨e0,e1,e2,e3,e4,e5,e6,e7,e8⟩:=nine hSw.1;obtain⟨f0,f1,f2,f3,f4,f5,f6,f7,f8⟩:=nine hSw.2;go_simp;(try(first |with_reducible rfl|rfl))) ?_;(try simp only[aK,aA,aD,aF]))
 refine aL rfl (fun K hK=>?_);go_simp;(refine(b7z v1 v2 v3 _).mono ?_;rintro e w4 ⟨rfl,hb4⟩;rw[h]);go_wp2_with fail;refine hK.o _ _ ((by first |exact⟨keep_b hY.1 hb4,keep_b hY.2 hb4⟩|exact⟨(hB9.same _ (by omega)).trans hY.1,(hB9.same _ (by omega)).trans hY.2⟩)) ?_;clear hY hK K;intro hY;iterate 8 (refine aI rfl (by rfl) (by intro w hSw;(try dsimp only at hSw);obtain⟨e0,e1,e2,e3,e4,e5,e6,e7,e8⟩:=nine hSw.1;obtain⟨f0,f1,f2,f3,f4,f5,f6,f7,f8⟩:=nine hSw.2;go_simp;(try(first |with_reducible rfl|rfl))) ?_;(try simp only[aK,aA,aD,aF]))
 refine aL rfl (fun K hK=>?_);rw[if_pos (by rfl)];refine bC rfl rfl rfl ([.int .i64 1,.int .i64 t,.int .i64 v1,.int .i64 v2,S v3,.int .i64 0,.int .i64 0,S [],.slice a m cap]) (keep_b HR0.o (HWD.o.call hb4)) rfl rfl bdInfo rfl ?_;intro w9 hB9 hX9;refine hK.o _ _ ((by first |exact⟨keep_b hY.1 hB94,keep_b hY.2 hB94⟩|exact⟨(hB9.same _ (by omega)).trans hY.1,(hB9.same _ (by omega)).trans hY.2⟩)) ?_;clear hY hK K;intro hY;(try simp only[aK])
 refine aI rfl (by rfl) (by intro w hSw;(try dsimp only at hSw);obtain⟨e0,e1,e2,e3,e4,e5,e6,e7,e8⟩:=nine hSw.1;obtain⟨f0,f1,f2,f3,f4,f5,f6,f7,f8⟩:=nine hSw.2;go_simp;(try(first |with_reducible rfl|rfl))) ?_;(try simp only[aK,aA,aD,aF])
 refine fO (bF ?_);obtain⟨q0,q1,q2,q3,q4,q5,q6,q7,q8⟩:=nine hX9;go_wp2;exact bodyPost_ret (v:= .tuple #[BdV 1 t (v1,v2,v3) 0 0 [] (.slice a m cap),.bool ((m:Int)==0)]) (by simp[results,Tryz.results67,go_sem,q0,q1,q2,q3,q4,q5,q6,q7,q8]) rfl ⟨rfl,hB9.bl (HB0.o.call (HWD.o.call hb4)) (by omega)⟩
theorem bare2_a(t v1 v2 p o:Int)(v3 n:List UInt8)(a:Option Addr)(m cap:Nat)(c:Int)(h:decide (0<=p)=false)(W:World):
  Calls Tryz.prog 67 #[BdV 2 t (v1,v2,v3) p o n (.slice a m cap),.int .i64 c] W fun e w'=>e= .returned (.tuple #[BdV 2 t (0,0,[]) p 0 [] (.slice a m cap),.bool false])/\Bl W w':=by
 have HX0:=aB (keep_b (aN W (.cells (cellsB 2 t v1 v2 v3 p o n (.slice a m cap)) 73)) (((Bl.refl _).alloc (.cells (cellsB 0 0 0 0 [] 0 0 [] (.slice none 0 0)) 30)).alloc (.cells (cellsB 2 t 0 0 [] p 0 [] (.slice a m cap)) 30)));have HR0:=aB (keep_b (aV (W.alloc (.cells (cellsB 2 t v1 v2 v3 p o n (.slice a m cap)) 73)) (.cells (cellsB 0 0 0 0 [] 0 0 [] (.slice none 0 0)) 30) (k:=W.heap.size+1) (by simp)) ((Bl.refl _).alloc (.cells (cellsB 2 t 0 0 [] p 0 [] (.slice a m cap)) 30)));have HO0:=aB (aV ((W.alloc (.cells (cellsB 2 t v1 v2 v3 p o n (.slice a m cap)) 73)).alloc (.cells (cellsB 0 0 0 0 [] 0 0 [] (.slice none 0 0)) 30)) (.cells (cellsB 2 t 0 0 [] p 0 [] (.slice a m cap)) 30) (k:=W.heap.size+1+1) (by simp));have HB0:=aB ((((Bl.refl W).alloc (.cells (cellsB 2 t v1 v2 v3 p o n (.slice a m cap)) 73)).alloc (.cells (cellsB 0 0 0 0 [] 0 0 [] (.slice none 0 0)) 30)).alloc (.cells (cellsB 2 t 0 0 [] p 0 [] (.slice a m cap)) 30));go_enter Tryz.func67,Tryz.ntmps67;go_wp2_with fail;obtain⟨w0,hw0⟩:∃w0,((W.alloc (.cells (cellsB 2 t v1 v2 v3 p o n (.slice a m cap)) 73)).alloc (.cells (cellsB 0 0 0 0 [] 0 0 [] (.slice none 0 0)) 30)).alloc (.cells (cellsB 2 t 0 0 [] p 0 [] (.slice a m cap)) 30)=w0:=⟨_,rfl⟩
 have hz0:w0.heap.size=W.heap.size+1+1+1:=(by rw[<-hw0];simp);rw[hw0] at HX0 HR0 HO0 HB0⊢;clear hw0;refine wp_region_noPanic (bM (fun B=>B.heap[W.heap.size]?=some (.cells (cellsB 2 t v1 v2 v3 p o n (.slice a m cap)) 73 (0,0))/\B.heap[W.heap.size+1+1]?=some (.cells (cellsB 2 t 0 0 [] p 0 [] (.slice a m cap)) 30 (0,0))) ((.take 0 (.take 1 (.take 2 (.take 3 (.take 4 (.take 5 (.take 6 (.take 7 (.take 8 (.take 9 (.take 10 (.take 11 (.take 12 (.take 13 (.take 14 (.take 15 (.take 16 (.take 17 (.take 18 (.take 19 (.take 20 (.take 21 (.take 22 (.take 23 (.take 24 (.take 25 (.take 26 (.take 27 (.take 28 (.take 29 (.take 30 (.one 31 (.take 32 .done)))))))))))))))))))))))))))))))))) (by kernel_rfl) (by kernel_rfl) (by kernel_rfl) (fun _ _ _ _ _ h=>h) (⟨HX0.o,HO0.o⟩) ?_);intro wd HWD hY;iterate 6 (refine aI rfl (by rfl) (by intro w hSw;(try dsimp only at hSw);obtain⟨e0,e1,e2,e3,e4,e5,e6,e7,e8⟩:=nine hSw.1;obtain⟨f0,f1,f2,f3,f4,f5,f6,f7,f8⟩:=nine hSw.2;go_simp;(try(first |with_reducible rfl|rfl))) ?_;(try simp only[aK,aA,aD,aF]))
 refine dK rfl (by rfl) ?_;(try simp only[aK,aA,aD,aF])
 refine dK rfl (by rfl) ?_;(try simp only[aK,aA,aD,aF])
 refine dK rfl (by rfl) ?_;(try simp only[aK,aA,aD,aF])
 refine dK rfl (by rfl) ?_;(try simp only[aK,aA,aD,aF])
 refine dK rfl (by rfl) ?_;(try simp only[aK,aA,aD,aF])
 iterate 2 (refine aI rfl (by rfl) (by intro w hSw;(try dsimp only at hSw);obtain⟨e0,e1,e2,e3,e4,e5,e6,e7,e8⟩:=nine hSw.1;obtain⟨f0,f1,f2,f3,f4,f5,f6,f7,f8⟩:=nine hSw.2;go_simp;(try(first |with_reducible rfl|rfl))) ?_;(try simp only[aK,aA,aD,aF]))
 refine dK rfl (by rfl) ?_;(try simp only[aK,aA,aD,aF])
 refine dK rfl (by rfl) ?_;(try simp only[aK,aA,aD,aF])
 refine dK rfl (by rfl) ?_;(try simp only[aK,aA,aD,aF])
 refine dK rfl (by rfl) ?_;(try simp only[aK,aA,aD,aF])
 iterate 2 (refine aI rfl (by rfl) (by intro w hSw;(try dsimp only at hSw);obtain⟨e0,e1,e2,e3,e4,e5,e6,e7,e8⟩:=nine hSw.1;obtain⟨f0,f1,f2,f3,f4,f5,f6,f7,f8⟩:=nine hSw.2;go_simp;(try(first |with_reducible rfl|rfl))) ?_;(try simp only[aK,aA,aD,aF]))
 refine dK rfl (by rfl) ?_;(try simp only[aK,aA,aD,aF])
 refine dK rfl (by rfl) ?_;(try simp only[aK,aA,aD,aF])
 refine dK rfl (by rfl) ?_;(try simp only[aK,aA,aD,aF])
 refine dK rfl (by rfl) ?_;(try simp only[aK,aA,aD,aF])
 iterate 2 (refine aI rfl (by rfl) (by intro w hSw;(try dsimp only at hSw);obtain⟨e0,e1,e2,e3,e4,e5,e6,e7,e8⟩:=nine hSw.1;obtain⟨f0,f1,f2,f3,f4,f5,f6,f7,f8⟩:=nine hSw.2;go_simp;(try(first |with_reducible rfl|rfl))) ?_;(try simp only[aK,aA,aD,aF]))
 refine dK rfl (by rfl) ?_;(try simp only[aK,aA,aD,aF])
 refine dK rfl (by rfl) ?_;(try simp only[aK,aA,aD,aF])
 refine dK rfl (by rfl) ?_;(try simp only[aK,aA,aD,aF])
 refine dK rfl (by rfl) ?_;(try simp only[aK,aA,aD,aF])
 refine dK rfl (by rfl) ?_;(try simp only[aK,aA,aD,aF])
 refine aI rfl (by rfl) (by intro w hSw;(try dsimp only at hSw);obtain⟨e0,e1,e2,e3,e4,e5,e6,e7,e8⟩:=nine hSw.1;obtain⟨f0,f1,f2,f3,f4,f5,f6,f7,f8⟩:=nine hSw.2;go_simp;(try(first |with_reducible rfl|rfl))) ?_;(try simp only[aK,aA,aD,aF])
 refine aL rfl (fun K hK=>?_);rw[if_pos (by rfl)];refine bC rfl rfl rfl ([.int .i64 2,.int .i64 t,.int .i64 0,.int .i64 0,S [],.int .i64 p,.int .i64 0,S [],.slice a m cap]) (keep_b HR0.o (HWD.o)) rfl rfl bdInfo rfl ?_;intro w9 hB9 hX9;refine hK.o _ _ ((by first |exact⟨keep_b hY.1 hB94,keep_b hY.2 hB94⟩|exact⟨(hB9.same _ (by omega)).trans hY.1,(hB9.same _ (by omega)).trans hY.2⟩)) ?_;clear hY hK K;intro hY;(try simp only[aK])
 refine aI rfl (by rfl) (by intro w hSw;(try dsimp only at hSw);obtain⟨e0,e1,e2,e3,e4,e5,e6,e7,e8⟩:=nine hSw.1;obtain⟨f0,f1,f2,f3,f4,f5,f6,f7,f8⟩:=nine hSw.2;go_simp;(try(first |with_reducible rfl|rfl))) ?_;(try simp only[aK,aA,aD,aF])
 refine fO (bF ?_);obtain⟨q0,q1,q2,q3,q4,q5,q6,q7,q8⟩:=nine hX9;go_wp2;exact bodyPost_ret (v:= .tuple #[BdV 2 t (0,0,[]) p 0 [] (.slice a m cap),.bool false]) (by simp[results,Tryz.results67,go_sem,q0,q1,q2,q3,q4,q5,q6,q7,q8]) rfl ⟨rfl,hB9.bl (HB0.o.call HWD.o) (by omega)⟩
theorem bare2_b(t v1 v2 p o:Int)(v3 n:List UInt8)(a:Option Addr)(m cap:Nat)(c:Int)(h:decide (0<=p)=true)(h2:decide (p<c)=false)(W:World):
  Calls Tryz.prog 67 #[BdV 2 t (v1,v2,v3) p o n (.slice a m cap),.int .i64 c] W fun e w'=>e= .returned (.tuple #[BdV 2 t (0,0,[]) p 0 [] (.slice a m cap),.bool false])/\Bl W w':=by
 have HX0:=aB (keep_b (aN W (.cells (cellsB 2 t v1 v2 v3 p o n (.slice a m cap)) 73)) (((Bl.refl _).alloc (.cells (cellsB 0 0 0 0 [] 0 0 [] (.slice none 0 0)) 30)).alloc (.cells (cellsB 2 t 0 0 [] p 0 [] (.slice a m cap)) 30)));have HR0:=aB (keep_b (aV (W.alloc (.cells (cellsB 2 t v1 v2 v3 p o n (.slice a m cap)) 73)) (.cells (cellsB 0 0 0 0 [] 0 0 [] (.slice none 0 0)) 30) (k:=W.heap.size+1) (by simp)) ((Bl.refl _).alloc (.cells (cellsB 2 t 0 0 [] p 0 [] (.slice a m cap)) 30)));have HO0:=aB (aV ((W.alloc (.cells (cellsB 2 t v1 v2 v3 p o n (.slice a m cap)) 73)).alloc (.cells (cellsB 0 0 0 0 [] 0 0 [] (.slice none 0 0)) 30)) (.cells (cellsB 2 t 0 0 [] p 0 [] (.slice a m cap)) 30) (k:=W.heap.size+1+1) (by simp));have HB0:=aB ((((Bl.refl W).alloc (.cells (cellsB 2 t v1 v2 v3 p o n (.slice a m cap)) 73)).alloc (.cells (cellsB 0 0 0 0 [] 0 0 [] (.slice none 0 0)) 30)).alloc (.cells (cellsB 2 t 0 0 [] p 0 [] (.slice a m cap)) 30));go_enter Tryz.func67,Tryz.ntmps67;go_wp2_with fail;obtain⟨w0,hw0⟩:∃w0,((W.alloc (.cells (cellsB 2 t v1 v2 v3 p o n (.slice a m cap)) 73)).alloc (.cells (cellsB 0 0 0 0 [] 0 0 [] (.slice none 0 0)) 30)).alloc (.cells (cellsB 2 t 0 0 [] p 0 [] (.slice a m cap)) 30)=w0:=⟨_,rfl⟩
 have hz0:w0.heap.size=W.heap.size+1+1+1:=(by rw[<-hw0];simp);rw[hw0] at HX0 HR0 HO0 HB0⊢;clear hw0;refine wp_region_noPanic (bM (fun B=>B.heap[W.heap.size]?=some (.cells (cellsB 2 t v1 v2 v3 p o n (.slice a m cap)) 73 (0,0))/\B.heap[W.heap.size+1+1]?=some (.cells (cellsB 2 t 0 0 [] p 0 [] (.slice a m cap)) 30 (0,0))) ((.take 0 (.take 1 (.take 2 (.take 3 (.take 4 (.take 5 (.take 6 (.take 7 (.take 8 (.take 9 (.take 10 (.take 11 (.take 12 (.take 13 (.take 14 (.take 15 (.take 16 (.take 17 (.take 18 (.take 19 (.take 20 (.take 21 (.take 22 (.take 23 (.take 24 (.take 25 (.take 26 (.take 27 (.take 28 (.take 29 (.take 30 (.one 31 (.take 32 .done)))))))))))))))))))))))))))))))))) (by kernel_rfl) (by kernel_rfl) (by kernel_rfl) (fun _ _ _ _ _ h=>h) (⟨HX0.o,HO0.o⟩) ?_);intro wd HWD hY;iterate 13 (refine aI rfl (by rfl) (by intro w hSw;(try dsimp only at hSw);obtain⟨e0,e1,e2,e3,e4,e5,e6,e7,e8⟩:=nine hSw.1;obtain⟨f0,f1,f2,f3,f4,f5,f6,f7,f8⟩:=nine hSw.2;go_simp;(try(first |with_reducible rfl|rfl))) ?_;(try simp only[aK,aA,aD,aF]))
 refine dK rfl (by rfl) ?_;(try simp only[aK,aA,aD,aF])
 refine dK rfl (by rfl) ?_;(try simp only[aK,aA,aD,aF])
 refine dK rfl (by rfl) ?_;(try simp only[aK,aA,aD,aF])
 refine dK rfl (by rfl) ?_;(try simp only[aK,aA,aD,aF])
 iterate 2 (refine aI rfl (by rfl) (by intro w hSw;(try dsimp only at hSw);obtain⟨e0,e1,e2,e3,e4,e5,e6,e7,e8⟩:=nine hSw.1;obtain⟨f0,f1,f2,f3,f4,f5,f6,f7,f8⟩:=nine hSw.2;go_simp;(try(first |with_reducible rfl|rfl))) ?_;(try simp only[aK,aA,aD,aF]))
 refine dK rfl (by rfl) ?_;(try simp only[aK,aA,aD,aF])
 refine dK rfl (by rfl) ?_;(try simp only[aK,aA,aD,aF])
 refine dK rfl (by rfl) ?_;(try simp only[aK,aA,aD,aF])
 refine dK rfl (by rfl) ?_;(try simp only[aK,aA,aD,aF])
 iterate 2 (refine aI rfl (by rfl) (by intro w hSw;(try dsimp only at hSw);obtain⟨e0,e1,e2,e3,e4,e5,e6,e7,e8⟩:=nine hSw.1;obtain⟨f0,f1,f2,f3,f4,f5,f6,f7,f8⟩:=nine hSw.2;go_simp;(try(first |with_reducible rfl|rfl))) ?_;(try simp only[aK,aA,aD,aF]))
 refine dK rfl (by rfl) ?_;(try simp only[aK,aA,aD,aF])
 refine dK rfl (by rfl) ?_;(try simp only[aK,aA,aD,aF])
 refine dK rfl (by rfl) ?_;(try simp only[aK,aA,aD,aF])
 refine dK rfl (by rfl) ?_;(try simp only[aK,aA,aD,aF])
 refine dK rfl (by rfl) ?_;(try simp only[aK,aA,aD,aF])
 refine aI rfl (by rfl) (by intro w hSw;(try dsimp only at hSw);obtain⟨e0,e1,e2,e3,e4,e5,e6,e7,e8⟩:=nine hSw.1;obtain⟨f0,f1,f2,f3,f4,f5,f6,f7,f8⟩:=nine hSw.2;go_simp;(try(first |with_reducible rfl|rfl))) ?_;(try simp only[aK,aA,aD,aF])
 refine aL rfl (fun K hK=>?_);rw[if_pos (by rfl)];refine bC rfl rfl rfl ([.int .i64 2,.int .i64 t,.int .i64 0,.int .i64 0,S [],.int .i64 p,.int .i64 0,S [],.slice a m cap]) (keep_b HR0.o (HWD.o)) rfl rfl bdInfo rfl ?_;intro w9 hB9 hX9;refine hK.o _ _ ((by first |exact⟨keep_b hY.1 hB94,keep_b hY.2 hB94⟩|exact⟨(hB9.same _ (by omega)).trans hY.1,(hB9.same _ (by omega)).trans hY.2⟩)) ?_;clear hY hK K;intro hY;(try simp only[aK])
 refine aI rfl (by rfl) (by intro w hSw;(try dsimp only at hSw);obtain⟨e0,e1,e2,e3,e4,e5,e6,e7,e8⟩:=nine hSw.1;obtain⟨f0,f1,f2,f3,f4,f5,f6,f7,f8⟩:=nine hSw.2;go_simp;(try(first |with_reducible rfl|rfl))) ?_;(try simp only[aK,aA,aD,aF])
 refine fO (bF ?_);obtain⟨q0,q1,q2,q3,q4,q5,q6,q7,q8⟩:=nine hX9;go_wp2;exact bodyPost_ret (v:= .tuple #[BdV 2 t (0,0,[]) p 0 [] (.slice a m cap),.bool false]) (by simp[results,Tryz.results67,go_sem,q0,q1,q2,q3,q4,q5,q6,q7,q8]) rfl ⟨rfl,hB9.bl (HB0.o.call HWD.o) (by omega)⟩
theorem bare2_c(t v1 v2 p o:Int)(v3 n:List UInt8)(a:Option Addr)(m cap:Nat)(c:Int)(h:decide (0<=p)=true)(h2:decide (p<c)=true)(h3:decide (1<=t)=false)(W:World):
  Calls Tryz.prog 67 #[BdV 2 t (v1,v2,v3) p o n (.slice a m cap),.int .i64 c] W fun e w'=>e= .returned (.tuple #[BdV 2 t (0,0,[]) p 0 [] (.slice a m cap),.bool false])/\Bl W w':=by
 have HX0:=aB (keep_b (aN W (.cells (cellsB 2 t v1 v2 v3 p o n (.slice a m cap)) 73)) (((Bl.refl _).alloc (.cells (cellsB 0 0 0 0 [] 0 0 [] (.slice none 0 0)) 30)).alloc (.cells (cellsB 2 t 0 0 [] p 0 [] (.slice a m cap)) 30)));have HR0:=aB (keep_b (aV (W.alloc (.cells (cellsB 2 t v1 v2 v3 p o n (.slice a m cap)) 73)) (.cells (cellsB 0 0 0 0 [] 0 0 [] (.slice none 0 0)) 30) (k:=W.heap.size+1) (by simp)) ((Bl.refl _).alloc (.cells (cellsB 2 t 0 0 [] p 0 [] (.slice a m cap)) 30)));have HO0:=aB (aV ((W.alloc (.cells (cellsB 2 t v1 v2 v3 p o n (.slice a m cap)) 73)).alloc (.cells (cellsB 0 0 0 0 [] 0 0 [] (.slice none 0 0)) 30)) (.cells (cellsB 2 t 0 0 [] p 0 [] (.slice a m cap)) 30) (k:=W.heap.size+1+1) (by simp));have HB0:=aB ((((Bl.refl W).alloc (.cells (cellsB 2 t v1 v2 v3 p o n (.slice a m cap)) 73)).alloc (.cells (cellsB 0 0 0 0 [] 0 0 [] (.slice none 0 0)) 30)).alloc (.cells (cellsB 2 t 0 0 [] p 0 [] (.slice a m cap)) 30));go_enter Tryz.func67,Tryz.ntmps67;go_wp2_with fail;obtain⟨w0,hw0⟩:∃w0,((W.alloc (.cells (cellsB 2 t v1 v2 v3 p o n (.slice a m cap)) 73)).alloc (.cells (cellsB 0 0 0 0 [] 0 0 [] (.slice none 0 0)) 30)).alloc (.cells (cellsB 2 t 0 0 [] p 0 [] (.slice a m cap)) 30)=w0:=⟨_,rfl⟩
 have hz0:w0.heap.size=W.heap.size+1+1+1:=(by rw[<-hw0];simp);rw[hw0] at HX0 HR0 HO0 HB0⊢;clear hw0;refine wp_region_noPanic (bM (fun B=>B.heap[W.heap.size]?=some (.cells (cellsB 2 t v1 v2 v3 p o n (.slice a m cap)) 73 (0,0))/\B.heap[W.heap.size+1+1]?=some (.cells (cellsB 2 t 0 0 [] p 0 [] (.slice a m cap)) 30 (0,0))) ((.take 0 (.take 1 (.take 2 (.take 3 (.take 4 (.take 5 (.take 6 (.take 7 (.take 8 (.take 9 (.take 10 (.take 11 (.take 12 (.take 13 (.take 14 (.take 15 (.take 16 (.take 17 (.take 18 (.take 19 (.take 20 (.take 21 (.take 22 (.take 23 (.take 24 (.take 25 (.take 26 (.take 27 (.take 28 (.take 29 (.take 30 (.one 31 (.take 32 .done)))))))))))))))))))))))))))))))))) (by kernel_rfl) (by kernel_rfl) (by kernel_rfl) (fun _ _ _ _ _ h=>h) (⟨HX0.o,HO0.o⟩) ?_);intro wd HWD hY;iterate 19 (refine aI rfl (by rfl) (by intro w hSw;(try dsimp only at hSw);obtain⟨e0,e1,e2,e3,e4,e5,e6,e7,e8⟩:=nine hSw.1;obtain⟨f0,f1,f2,f3,f4,f5,f6,f7,f8⟩:=nine hSw.2;go_simp;(try(first |with_reducible rfl|rfl))) ?_;(try simp only[aK,aA,aD,aF]))
 refine dK rfl (by rfl) ?_;(try simp only[aK,aA,aD,aF])
 refine dK rfl (by rfl) ?_;(try simp only[aK,aA,aD,aF])
 refine dK rfl (by rfl) ?_;(try simp only[aK,aA,aD,aF])
 refine dK rfl (by rfl) ?_;(try simp only[aK,aA,aD,aF])
 iterate 2 (refine aI rfl (by rfl) (by intro w hSw;(try dsimp only at hSw);obtain⟨e0,e1,e2,e3,e4,e5,e6,e7,e8⟩:=nine hSw.1;obtain⟨f0,f1,f2,f3,f4,f5,f6,f7,f8⟩:=nine hSw.2;go_simp;(try(first |with_reducible rfl|rfl))) ?_;(try simp only[aK,aA,aD,aF]))
 refine dK rfl (by rfl) ?_;(try simp only[aK,aA,aD,aF])
 refine dK rfl (by rfl) ?_;(try simp only[aK,aA,aD,aF])
 refine dK rfl (by rfl) ?_;(try simp only[aK,aA,aD,aF])
 refine dK rfl (by rfl) ?_;(try simp only[aK,aA,aD,aF])
 refine dK rfl (by rfl) ?_;(try simp only[aK,aA,aD,aF])
 refine aI rfl (by rfl) (by intro w hSw;(try dsimp only at hSw);obtain⟨e0,e1,e2,e3,e4,e5,e6,e7,e8⟩:=nine hSw.1;obtain⟨f0,f1,f2,f3,f4,f5,f6,f7,f8⟩:=nine hSw.2;go_simp;(try(first |with_reducible rfl|rfl))) ?_;(try simp only[aK,aA,aD,aF])
 refine aL rfl (fun K hK=>?_);rw[if_pos (by rfl)];refine bC rfl rfl rfl ([.int .i64 2,.int .i64 t,.int .i64 0,.int .i64 0,S [],.int .i64 p,.int .i64 0,S [],.slice a m cap]) (keep_b HR0.o (HWD.o)) rfl rfl bdInfo rfl ?_;intro w9 hB9 hX9;refine hK.o _ _ ((by first |exact⟨keep_b hY.1 hB94,keep_b hY.2 hB94⟩|exact⟨(hB9.same _ (by omega)).trans hY.1,(hB9.same _ (by omega)).trans hY.2⟩)) ?_;clear hY hK K;intro hY;(try simp only[aK])
 refine aI rfl (by rfl) (by intro w hSw;(try dsimp only at hSw);obtain⟨e0,e1,e2,e3,e4,e5,e6,e7,e8⟩:=nine hSw.1;obtain⟨f0,f1,f2,f3,f4,f5,f6,f7,f8⟩:=nine hSw.2;go_simp;(try(first |with_reducible rfl|rfl))) ?_;(try simp only[aK,aA,aD,aF])
 refine fO (bF ?_);obtain⟨q0,q1,q2,q3,q4,q5,q6,q7,q8⟩:=nine hX9;go_wp2;exact bodyPost_ret (v:= .tuple #[BdV 2 t (0,0,[]) p 0 [] (.slice a m cap),.bool false]) (by simp[results,Tryz.results67,go_sem,q0,q1,q2,q3,q4,q5,q6,q7,q8]) rfl ⟨rfl,hB9.bl (HB0.o.call HWD.o) (by omega)⟩
theorem bare2_d(t v1 v2 p o:Int)(v3 n:List UInt8)(a:Option Addr)(m cap:Nat)(c:Int)(h:decide (0<=p)=true)(h2:decide (p<c)=true)(h3:decide (1<=t)=true)(h4:decide (t<=4)=false)(W:World):
  Calls Tryz.prog 67 #[BdV 2 t (v1,v2,v3) p o n (.slice a m cap),.int .i64 c] W fun e w'=>e= .returned (.tuple #[BdV 2 t (0,0,[]) p 0 [] (.slice a m cap),.bool false])/\Bl W w':=by
 have HX0:=aB (keep_b (aN W (.cells (cellsB 2 t v1 v2 v3 p o n (.slice a m cap)) 73)) (((Bl.refl _).alloc (.cells (cellsB 0 0 0 0 [] 0 0 [] (.slice none 0 0)) 30)).alloc (.cells (cellsB 2 t 0 0 [] p 0 [] (.slice a m cap)) 30)));have HR0:=aB (keep_b (aV (W.alloc (.cells (cellsB 2 t v1 v2 v3 p o n (.slice a m cap)) 73)) (.cells (cellsB 0 0 0 0 [] 0 0 [] (.slice none 0 0)) 30) (k:=W.heap.size+1) (by simp)) ((Bl.refl _).alloc (.cells (cellsB 2 t 0 0 [] p 0 [] (.slice a m cap)) 30)));have HO0:=aB (aV ((W.alloc (.cells (cellsB 2 t v1 v2 v3 p o n (.slice a m cap)) 73)).alloc (.cells (cellsB 0 0 0 0 [] 0 0 [] (.slice none 0 0)) 30)) (.cells (cellsB 2 t 0 0 [] p 0 [] (.slice a m cap)) 30) (k:=W.heap.size+1+1) (by simp));have HB0:=aB ((((Bl.refl W).alloc (.cells (cellsB 2 t v1 v2 v3 p o n (.slice a m cap)) 73)).alloc (.cells (cellsB 0 0 0 0 [] 0 0 [] (.slice none 0 0)) 30)).alloc (.cells (cellsB 2 t 0 0 [] p 0 [] (.slice a m cap)) 30));go_enter Tryz.func67,Tryz.ntmps67;go_wp2_with fail;obtain⟨w0,hw0⟩:∃w0,((W.alloc (.cells (cellsB 2 t v1 v2 v3 p o n (.slice a m cap)) 73)).alloc (.cells (cellsB 0 0 0 0 [] 0 0 [] (.slice none 0 0)) 30)).alloc (.cells (cellsB 2 t 0 0 [] p 0 [] (.slice a m cap)) 30)=w0:=⟨_,rfl⟩
 have hz0:w0.heap.size=W.heap.size+1+1+1:=(by rw[<-hw0];simp);rw[hw0] at HX0 HR0 HO0 HB0⊢;clear hw0;refine wp_region_noPanic (bM (fun B=>B.heap[W.heap.size]?=some (.cells (cellsB 2 t v1 v2 v3 p o n (.slice a m cap)) 73 (0,0))/\B.heap[W.heap.size+1+1]?=some (.cells (cellsB 2 t 0 0 [] p 0 [] (.slice a m cap)) 30 (0,0))) ((.take 0 (.take 1 (.take 2 (.take 3 (.take 4 (.take 5 (.take 6 (.take 7 (.take 8 (.take 9 (.take 10 (.take 11 (.take 12 (.take 13 (.take 14 (.take 15 (.take 16 (.take 17 (.take 18 (.take 19 (.take 20 (.take 21 (.take 22 (.take 23 (.take 24 (.take 25 (.take 26 (.take 27 (.take 28 (.take 29 (.take 30 (.one 31 (.take 32 .done)))))))))))))))))))))))))))))))))) (by kernel_rfl) (by kernel_rfl) (by kernel_rfl) (fun _ _ _ _ _ h=>h) (⟨HX0.o,HO0.o⟩) ?_);intro wd HWD hY;iterate 25 (refine aI rfl (by rfl) (by intro w hSw;(try dsimp only at hSw);obtain⟨e0,e1,e2,e3,e4,e5,e6,e7,e8⟩:=nine hSw.1;obtain⟨f0,f1,f2,f3,f4,f5,f6,f7,f8⟩:=nine hSw.2;go_simp;(try(first |with_reducible rfl|rfl))) ?_;(try simp only[aK,aA,aD,aF]))
 refine dK rfl (by rfl) ?_;(try simp only[aK,aA,aD,aF])
 refine dK rfl (by rfl) ?_;(try simp only[aK,aA,aD,aF])
 refine dK rfl (by rfl) ?_;(try simp only[aK,aA,aD,aF])
 refine dK rfl (by rfl) ?_;(try simp only[aK,aA,aD,aF])
 refine dK rfl (by rfl) ?_;(try simp only[aK,aA,aD,aF])
 refine aI rfl (by rfl) (by intro w hSw;(try dsimp only at hSw);obtain⟨e0,e1,e2,e3,e4,e5,e6,e7,e8⟩:=nine hSw.1;obtain⟨f0,f1,f2,f3,f4,f5,f6,f7,f8⟩:=nine hSw.2;go_simp;(try(first |with_reducible rfl|rfl))) ?_;(try simp only[aK,aA,aD,aF])
 refine aL rfl (fun K hK=>?_);rw[if_pos (by rfl)];refine bC rfl rfl rfl ([.int .i64 2,.int .i64 t,.int .i64 0,.int .i64 0,S [],.int .i64 p,.int .i64 0,S [],.slice a m cap]) (keep_b HR0.o (HWD.o)) rfl rfl bdInfo rfl ?_;intro w9 hB9 hX9;refine hK.o _ _ ((by first |exact⟨keep_b hY.1 hB94,keep_b hY.2 hB94⟩|exact⟨(hB9.same _ (by omega)).trans hY.1,(hB9.same _ (by omega)).trans hY.2⟩)) ?_;clear hY hK K;intro hY;(try simp only[aK])
 refine aI rfl (by rfl) (by intro w hSw;(try dsimp only at hSw);obtain⟨e0,e1,e2,e3,e4,e5,e6,e7,e8⟩:=nine hSw.1;obtain⟨f0,f1,f2,f3,f4,f5,f6,f7,f8⟩:=nine hSw.2;go_simp;(try(first |with_reducible rfl|rfl))) ?_;(try simp only[aK,aA,aD,aF])
 refine fO (bF ?_);obtain⟨q0,q1,q2,q3,q4,q5,q6,q7,q8⟩:=nine hX9;go_wp2;exact bodyPost_ret (v:= .tuple #[BdV 2 t (0,0,[]) p 0 [] (.slice a m cap),.bool false]) (by simp[results,Tryz.results67,go_sem,q0,q1,q2,q3,q4,q5,q6,q7,q8]) rfl ⟨rfl,hB9.bl (HB0.o.call HWD.o) (by omega)⟩
theorem bare2_e(t v1 v2 p o:Int)(v3 n:List UInt8)(a:Option Addr)(m cap:Nat)(c:Int)(h:decide (0<=p)=true)(h2:decide (p<c)=true)(h3:decide (1<=t)=true)(h4:decide (t<=4)=true)(W:World):
  Calls Tryz.prog 67 #[BdV 2 t (v1,v2,v3) p o n (.slice a m cap),.int .i64 c] W fun e w'=>e= .returned (.tuple #[BdV 2 t (0,0,[]) p 0 [] (.slice a m cap),.bool ((m:Int)==0)])/\Bl W w':=by
 have HX0:=aB (keep_b (aN W (.cells (cellsB 2 t v1 v2 v3 p o n (.slice a m cap)) 73)) (((Bl.refl _).alloc (.cells (cellsB 0 0 0 0 [] 0 0 [] (.slice none 0 0)) 30)).alloc (.cells (cellsB 2 t 0 0 [] p 0 [] (.slice a m cap)) 30)));have HR0:=aB (keep_b (aV (W.alloc (.cells (cellsB 2 t v1 v2 v3 p o n (.slice a m cap)) 73)) (.cells (cellsB 0 0 0 0 [] 0 0 [] (.slice none 0 0)) 30) (k:=W.heap.size+1) (by simp)) ((Bl.refl _).alloc (.cells (cellsB 2 t 0 0 [] p 0 [] (.slice a m cap)) 30)));have HO0:=aB (aV ((W.alloc (.cells (cellsB 2 t v1 v2 v3 p o n (.slice a m cap)) 73)).alloc (.cells (cellsB 0 0 0 0 [] 0 0 [] (.slice none 0 0)) 30)) (.cells (cellsB 2 t 0 0 [] p 0 [] (.slice a m cap)) 30) (k:=W.heap.size+1+1) (by simp));have HB0:=aB ((((Bl.refl W).alloc (.cells (cellsB 2 t v1 v2 v3 p o n (.slice a m cap)) 73)).alloc (.cells (cellsB 0 0 0 0 [] 0 0 [] (.slice none 0 0)) 30)).alloc (.cells (cellsB 2 t 0 0 [] p 0 [] (.slice a m cap)) 30));go_enter Tryz.func67,Tryz.ntmps67;go_wp2_with fail;obtain⟨w0,hw0⟩:∃w0,((W.alloc (.cells (cellsB 2 t v1 v2 v3 p o n (.slice a m cap)) 73)).alloc (.cells (cellsB 0 0 0 0 [] 0 0 [] (.slice none 0 0)) 30)).alloc (.cells (cellsB 2 t 0 0 [] p 0 [] (.slice a m cap)) 30)=w0:=⟨_,rfl⟩
 have hz0:w0.heap.size=W.heap.size+1+1+1:=(by rw[<-hw0];simp);rw[hw0] at HX0 HR0 HO0 HB0⊢;clear hw0;refine wp_region_noPanic (bM (fun B=>B.heap[W.heap.size]?=some (.cells (cellsB 2 t v1 v2 v3 p o n (.slice a m cap)) 73 (0,0))/\B.heap[W.heap.size+1+1]?=some (.cells (cellsB 2 t 0 0 [] p 0 [] (.slice a m cap)) 30 (0,0))) ((.take 0 (.take 1 (.take 2 (.take 3 (.take 4 (.take 5 (.take 6 (.take 7 (.take 8 (.take 9 (.take 10 (.take 11 (.take 12 (.take 13 (.take 14 (.take 15 (.take 16 (.take 17 (.take 18 (.take 19 (.take 20 (.take 21 (.take 22 (.take 23 (.take 24 (.take 25 (.take 26 (.take 27 (.take 28 (.take 29 (.take 30 (.one 31 (.take 32 .done)))))))))))))))))))))))))))))))))) (by kernel_rfl) (by kernel_rfl) (by kernel_rfl) (fun _ _ _ _ _ h=>h) (⟨HX0.o,HO0.o⟩) ?_);intro wd HWD hY;iterate 31 (refine aI rfl (by rfl) (by intro w hSw;(try dsimp only at hSw);obtain⟨e0,e1,e2,e3,e4,e5,e6,e7,e8⟩:=nine hSw.1;obtain⟨f0,f1,f2,f3,f4,f5,f6,f7,f8⟩:=nine hSw.2;go_simp;(try(first |with_reducible rfl|rfl))) ?_;(try simp only[aK,aA,aD,aF]))
 refine aL rfl (fun K hK=>?_);rw[if_pos (by rfl)];refine bC rfl rfl rfl ([.int .i64 2,.int .i64 t,.int .i64 0,.int .i64 0,S [],.int .i64 p,.int .i64 0,S [],.slice a m cap]) (keep_b HR0.o (HWD.o)) rfl rfl bdInfo rfl ?_;intro w9 hB9 hX9;refine hK.o _ _ ((by first |exact⟨keep_b hY.1 hB94,keep_b hY.2 hB94⟩|exact⟨(hB9.same _ (by omega)).trans hY.1,(hB9.same _ (by omega)).trans hY.2⟩)) ?_;clear hY hK K;intro hY;(try simp only[aK])
 refine aI rfl (by rfl) (by intro w hSw;(try dsimp only at hSw);obtain⟨e0,e1,e2,e3,e4,e5,e6,e7,e8⟩:=nine hSw.1;obtain⟨f0,f1,f2,f3,f4,f5,f6,f7,f8⟩:=nine hSw.2;go_simp;(try(first |with_reducible rfl|rfl))) ?_;(try simp only[aK,aA,aD,aF])
 refine fO (bF ?_);obtain⟨q0,q1,q2,q3,q4,q5,q6,q7,q8⟩:=nine hX9;go_wp2;exact bodyPost_ret (v:= .tuple #[BdV 2 t (0,0,[]) p 0 [] (.slice a m cap),.bool ((m:Int)==0)]) (by simp[results,Tryz.results67,go_sem,q0,q1,q2,q3,q4,q5,q6,q7,q8]) rfl ⟨rfl,hB9.bl (HB0.o.call HWD.o) (by omega)⟩
theorem bare3_any(t v1 v2 p o:Int)(v3 n:List UInt8)(a:Option Addr)(m cap:Nat)(c:Int)(W:World):
  Calls Tryz.prog 67 #[BdV 3 t (v1,v2,v3) p o n (.slice a m cap),.int .i64 c] W fun e w'=>e= .returned (.tuple #[BdV 3 t (0,0,[]) 0 o [] (.slice a m cap),.bool true])/\Bl W w':=by
 go_enter Tryz.func67,Tryz.ntmps67;go_wp2;exact bodyPost_ret (v:= .tuple #[BdV 3 t (0,0,[]) 0 o [] (.slice a m cap),.bool true]) (by simp[results,Tryz.results67,go_sem]) rfl ⟨rfl,(((Bl.refl W).alloc _).alloc _).alloc _⟩
theorem bare0_any(t v1 v2 p o:Int)(v3 n:List UInt8)(a:Option Addr)(m cap:Nat)(c:Int)(k:Int)(g1:(k==1)=false)(g2:(k==2)=false)(g3:(k==3)=false)(g4:(k==4)=false)(g5:(k==5)=false)(W:World):
  Calls Tryz.prog 67 #[BdV k t (v1,v2,v3) p o n (.slice a m cap),.int .i64 c] W fun e w'=>e= .returned (.tuple #[BdV k t (0,0,[]) 0 0 [] (.slice a m cap),.bool false])/\Bl W w':=by
 go_enter Tryz.func67,Tryz.ntmps67;go_wp2;exact bodyPost_ret (v:= .tuple #[BdV k t (0,0,[]) 0 0 [] (.slice a m cap),.bool false]) (by simp[results,Tryz.results67,go_sem]) rfl ⟨rfl,(((Bl.refl W).alloc _).alloc _).alloc _⟩
theorem bare4_any(t v1 v2 p o:Int)(v3 n:List UInt8)(a:Option Addr)(m cap:Nat)(c:Int)(W:World):
  Calls Tryz.prog 67 #[BdV 4 t (v1,v2,v3) p o n (.slice a m cap),.int .i64 c] W fun e w'=>e= .returned (.tuple #[BdV 4 t (0,0,[]) 0 0 [] (.slice a m cap),.bool (decide ((0:Int)<m))])/\Bl W w':=by
 have HX0:=aB (keep_b (aN W (.cells (cellsB 4 t v1 v2 v3 p o n (.slice a m cap)) 73)) (((Bl.refl _).alloc (.cells (cellsB 0 0 0 0 [] 0 0 [] (.slice none 0 0)) 30)).alloc (.cells (cellsB 4 t 0 0 [] 0 0 [] (.slice a m cap)) 30)));have HR0:=aB (keep_b (aV (W.alloc (.cells (cellsB 4 t v1 v2 v3 p o n (.slice a m cap)) 73)) (.cells (cellsB 0 0 0 0 [] 0 0 [] (.slice none 0 0)) 30) (k:=W.heap.size+1) (by simp)) ((Bl.refl _).alloc (.cells (cellsB 4 t 0 0 [] 0 0 [] (.slice a m cap)) 30)));have HO0:=aB (aV ((W.alloc (.cells (cellsB 4 t v1 v2 v3 p o n (.slice a m cap)) 73)).alloc (.cells (cellsB 0 0 0 0 [] 0 0 [] (.slice none 0 0)) 30)) (.cells (cellsB 4 t 0 0 [] 0 0 [] (.slice a m cap)) 30) (k:=W.heap.size+1+1) (by simp));have HB0:=aB ((((Bl.refl W).alloc (.cells (cellsB 4 t v1 v2 v3 p o n (.slice a m cap)) 73)).alloc (.cells (cellsB 0 0 0 0 [] 0 0 [] (.slice none 0 0)) 30)).alloc (.cells (cellsB 4 t 0 0 [] 0 0 [] (.slice a m cap)) 30));go_enter Tryz.func67,Tryz.ntmps67;go_wp2_with fail;obtain⟨w0,hw0⟩:∃w0,((W.alloc (.cells (cellsB 4 t v1 v2 v3 p o n (.slice a m cap)) 73)).alloc (.cells (cellsB 0 0 0 0 [] 0 0 [] (.slice none 0 0)) 30)).alloc (.cells (cellsB 4 t 0 0 [] 0 0 [] (.slice a m cap)) 30)=w0:=⟨_,rfl⟩
 have hz0:w0.heap.size=W.heap.size+1+1+1:=(by rw[<-hw0];simp);rw[hw0] at HX0 HR0 HO0 HB0⊢;clear hw0;refine wp_region_noPanic (bM (fun B=>B.heap[W.heap.size]?=some (.cells (cellsB 4 t v1 v2 v3 p o n (.slice a m cap)) 73 (0,0))/\B.heap[W.heap.size+1+1]?=some (.cells (cellsB 4 t 0 0 [] 0 0 [] (.slice a m cap)) 30 (0,0))) ((.take 0 (.take 1 (.take 2 (.take 3 (.take 4 (.take 5 (.one 6 (.take 7 .done))))))))) (by kernel_rfl) (by kernel_rfl) (by kernel_rfl) (fun _ _ _ _ _ h=>h) (⟨HX0.o,HO0.o⟩) ?_);intro wd HWD hY;iterate 6 (refine aI rfl (by rfl) (by intro w hSw;(try dsimp only at hSw);obtain⟨e0,e1,e2,e3,e4,e5,e6,e7,e8⟩:=nine hSw.1;obtain⟨f0,f1,f2,f3,f4,f5,f6,f7,f8⟩:=nine hSw.2;go_simp;(try(first |with_reducible rfl|rfl))) ?_;(try simp only[aK,aA,aD,aF]))
 refine aL rfl (fun K hK=>?_);rw[if_pos (by rfl)];refine bC rfl rfl rfl ([.int .i64 4,.int .i64 t,.int .i64 0,.int .i64 0,S [],.int .i64 0,.int .i64 0,S [],.slice a m cap]) (keep_b HR0.o (HWD.o)) rfl rfl bdInfo rfl ?_;intro w9 hB9 hX9;refine hK.o _ _ ((by first |exact⟨keep_b hY.1 hB94,keep_b hY.2 hB94⟩|exact⟨(hB9.same _ (by omega)).trans hY.1,(hB9.same _ (by omega)).trans hY.2⟩)) ?_;clear hY hK K;intro hY;(try simp only[aK])
 refine aI rfl (by rfl) (by intro w hSw;(try dsimp only at hSw);obtain⟨e0,e1,e2,e3,e4,e5,e6,e7,e8⟩:=nine hSw.1;obtain⟨f0,f1,f2,f3,f4,f5,f6,f7,f8⟩:=nine hSw.2;go_simp;(try(first |with_reducible rfl|rfl))) ?_;(try simp only[aK,aA,aD,aF])
 refine fO (bF ?_);obtain⟨q0,q1,q2,q3,q4,q5,q6,q7,q8⟩:=nine hX9;go_wp2;exact bodyPost_ret (v:= .tuple #[BdV 4 t (0,0,[]) 0 0 [] (.slice a m cap),.bool (decide ((0:Int)<m))]) (by simp[results,Tryz.results67,go_sem,q0,q1,q2,q3,q4,q5,q6,q7,q8]) rfl ⟨rfl,hB9.bl (HB0.o.call HWD.o) (by omega)⟩
theorem bare5_a(t v1 v2 p o:Int)(v3 n:List UInt8)(a:Option Addr)(m cap:Nat)(c:Int)(hs:gP.contains n=false)(W:World):
  Calls Tryz.prog 67 #[BdV 5 t (v1,v2,v3) p o n (.slice a m cap),.int .i64 c] W fun e w'=>e= .returned (.tuple #[BdV 5 t (0,0,[]) 0 0 n (.slice a m cap),.bool false])/\Bl W w':=by
 have HX0:=aB (keep_b (aN W (.cells (cellsB 5 t v1 v2 v3 p o n (.slice a m cap)) 73)) (((Bl.refl _).alloc (.cells (cellsB 0 0 0 0 [] 0 0 [] (.slice none 0 0)) 30)).alloc (.cells (cellsB 5 t 0 0 [] 0 0 n (.slice a m cap)) 30)));have HR0:=aB (keep_b (aV (W.alloc (.cells (cellsB 5 t v1 v2 v3 p o n (.slice a m cap)) 73)) (.cells (cellsB 0 0 0 0 [] 0 0 [] (.slice none 0 0)) 30) (k:=W.heap.size+1) (by simp)) ((Bl.refl _).alloc (.cells (cellsB 5 t 0 0 [] 0 0 n (.slice a m cap)) 30)));have HO0:=aB (aV ((W.alloc (.cells (cellsB 5 t v1 v2 v3 p o n (.slice a m cap)) 73)).alloc (.cells (cellsB 0 0 0 0 [] 0 0 [] (.slice none 0 0)) 30)) (.cells (cellsB 5 t 0 0 [] 0 0 n (.slice a m cap)) 30) (k:=W.heap.size+1+1) (by simp));have HB0:=aB ((((Bl.refl W).alloc (.cells (cellsB 5 t v1 v2 v3 p o n (.slice a m cap)) 73)).alloc (.cells (cellsB 0 0 0 0 [] 0 0 [] (.slice none 0 0)) 30)).alloc (.cells (cellsB 5 t 0 0 [] 0 0 n (.slice a m cap)) 30));go_enter Tryz.func67,Tryz.ntmps67;go_wp2_with fail;obtain⟨w0,hw0⟩:∃w0,((W.alloc (.cells (cellsB 5 t v1 v2 v3 p o n (.slice a m cap)) 73)).alloc (.cells (cellsB 0 0 0 0 [] 0 0 [] (.slice none 0 0)) 30)).alloc (.cells (cellsB 5 t 0 0 [] 0 0 n (.slice a m cap)) 30)=w0:=⟨_,rfl⟩
 have hz0:w0.heap.size=W.heap.size+1+1+1:=(by rw[<-hw0];simp);rw[hw0] at HX0 HR0 HO0 HB0⊢;clear hw0;refine(kN (t:=9) (show(w0.alloc (.cells #[S [99,111,117,110,116],S [115,117,109],S [109,105,110],S [109,97,120]] 9)).heap[W.heap.size+1+1+1]?=_ from aV w0 _ (k:=W.heap.size+1+1+1) hz0.symm) n).mono ?_;rintro e w4 ⟨rfl,rfl⟩;rw[hs];have HX5:=aB (keep_b HX0.o ((Bl.refl w0).alloc (.cells #[S [99,111,117,110,116],S [115,117,109],S [109,105,110],S [109,97,120]] 9)));have HO5:=aB (keep_b HO0.o ((Bl.refl w0).alloc (.cells #[S [99,111,117,110,116],S [115,117,109],S [109,105,110],S [109,97,120]] 9)));have HR5:=aB (keep_b HR0.o ((Bl.refl w0).alloc (.cells #[S [99,111,117,110,116],S [115,117,109],S [109,105,110],S [109,97,120]] 9)));have HB5:=aB (HB0.o.alloc (.cells #[S [99,111,117,110,116],S [115,117,109],S [109,105,110],S [109,97,120]] 9));clear HX0 HO0 HR0 HB0;have HX0:=HX5;have HO0:=HO5;have HR0:=HR5;have HB0:=HB5;clear HX5 HO5 HR5 HB5 hz0;go_wp2_with fail;generalize w0.alloc (.cells #[S [99,111,117,110,116],S [115,117,109],S [109,105,110],S [109,97,120]] 9)=w1 at *;refine wp_region_noPanic (bM (fun B=>B.heap[W.heap.size]?=some (.cells (cellsB 5 t v1 v2 v3 p o n (.slice a m cap)) 73 (0,0))/\B.heap[W.heap.size+1+1]?=some (.cells (cellsB 5 t 0 0 [] 0 0 n (.slice a m cap)) 30 (0,0))) ((.take 0 (.take 1 (.take 2 (.take 3 (.take 4 (.take 5 (.take 6 (.take 7 (.take 8 (.take 9 (.take 10 (.take 11 (.take 12 (.take 13 (.take 14 (.take 15 (.take 16 (.take 17 (.take 18 (.take 19 (.take 20 (.take 21 (.one 22 (.take 23 .done))))))))))))))))))))))))) (by kernel_rfl) (by kernel_rfl) (by kernel_rfl) (fun _ _ _ _ _ h=>h) (⟨HX0.o,HO0.o⟩) ?_);intro wd HWD hY;iterate 3 (refine aI rfl (by rfl) (by intro w hSw;(try dsimp only at hSw);obtain⟨e0,e1,e2,e3,e4,e5,e6,e7,e8⟩:=nine hSw.1;obtain⟨f0,f1,f2,f3,f4,f5,f6,f7,f8⟩:=nine hSw.2;go_simp;(try(first |with_reducible rfl|rfl))) ?_;(try simp only[aK,aA,aD,aF]))
 refine dK rfl (by rfl) ?_;(try simp only[aK,aA,aD,aF])
 refine dK rfl (by rfl) ?_;(try simp only[aK,aA,aD,aF])
 refine dK rfl (by rfl) ?_;(try simp only[aK,aA,aD,aF])
 refine dK rfl (by rfl) ?_;(try simp only[aK,aA,aD,aF])
 refine dK rfl (by rfl) ?_;(try simp only[aK,aA,aD,aF])
 iterate 2 (refine aI rfl (by rfl) (by intro w hSw;(try dsimp only at hSw);obtain⟨e0,e1,e2,e3,e4,e5,e6,e7,e8⟩:=nine hSw.1;obtain⟨f0,f1,f2,f3,f4,f5,f6,f7,f8⟩:=nine hSw.2;go_simp;(try(first |with_reducible rfl|rfl))) ?_;(try simp only[aK,aA,aD,aF]))
 refine dK rfl (by rfl) ?_;(try simp only[aK,aA,aD,aF])
 refine dK rfl (by rfl) ?_;(try simp only[aK,aA,aD,aF])
 refine dK rfl (by rfl) ?_;(try simp only[aK,aA,aD,aF])
 refine dK rfl (by rfl) ?_;(try simp only[aK,aA,aD,aF])
 refine dK rfl (by rfl) ?_;(try simp only[aK,aA,aD,aF])
 refine dK rfl (by rfl) ?_;(try simp only[aK,aA,aD,aF])
 refine dK rfl (by rfl) ?_;(try simp only[aK,aA,aD,aF])
 refine dK rfl (by rfl) ?_;(try simp only[aK,aA,aD,aF])
 refine dK rfl (by rfl) ?_;(try simp only[aK,aA,aD,aF])
 refine dK rfl (by rfl) ?_;(try simp only[aK,aA,aD,aF])
 refine dK rfl (by rfl) ?_;(try simp only[aK,aA,aD,aF])
 refine aI rfl (by rfl) (by intro w hSw;(try dsimp only at hSw);obtain⟨e0,e1,e2,e3,e4,e5,e6,e7,e8⟩:=nine hSw.1;obtain⟨f0,f1,f2,f3,f4,f5,f6,f7,f8⟩:=nine hSw.2;go_simp;(try(first |with_reducible rfl|rfl))) ?_;(try simp only[aK,aA,aD,aF])
 refine aL rfl (fun K hK=>?_);rw[if_pos (by rfl)];refine bC rfl rfl rfl ([.int .i64 5,.int .i64 t,.int .i64 0,.int .i64 0,S [],.int .i64 0,.int .i64 0,S n,.slice a m cap]) (keep_b HR0.o (HWD.o)) rfl rfl bdInfo rfl ?_;intro w9 hB9 hX9;refine hK.o _ _ ((by first |exact⟨keep_b hY.1 hB94,keep_b hY.2 hB94⟩|exact⟨(hB9.same _ (by omega)).trans hY.1,(hB9.same _ (by omega)).trans hY.2⟩)) ?_;clear hY hK K;intro hY;(try simp only[aK])
 refine aI rfl (by rfl) (by intro w hSw;(try dsimp only at hSw);obtain⟨e0,e1,e2,e3,e4,e5,e6,e7,e8⟩:=nine hSw.1;obtain⟨f0,f1,f2,f3,f4,f5,f6,f7,f8⟩:=nine hSw.2;go_simp;(try(first |with_reducible rfl|rfl))) ?_;(try simp only[aK,aA,aD,aF])
 refine fO (bF ?_);obtain⟨q0,q1,q2,q3,q4,q5,q6,q7,q8⟩:=nine hX9;go_wp2;exact bodyPost_ret (v:= .tuple #[BdV 5 t (0,0,[]) 0 0 n (.slice a m cap),.bool false]) (by simp[results,Tryz.results67,go_sem,q0,q1,q2,q3,q4,q5,q6,q7,q8]) rfl ⟨rfl,hB9.bl (HB0.o.call HWD.o) (by omega)⟩
theorem bare5_b(t v1 v2 p o:Int)(v3 n:List UInt8)(a:Option Addr)(m cap:Nat)(c:Int)(hs:gP.contains n=true)(h1:decide ((m:Int)<=1)=false)(W:World):
  Calls Tryz.prog 67 #[BdV 5 t (v1,v2,v3) p o n (.slice a m cap),.int .i64 c] W fun e w'=>e= .returned (.tuple #[BdV 5 t (0,0,[]) 0 0 n (.slice a m cap),.bool false])/\Bl W w':=by
 have HX0:=aB (keep_b (aN W (.cells (cellsB 5 t v1 v2 v3 p o n (.slice a m cap)) 73)) (((Bl.refl _).alloc (.cells (cellsB 0 0 0 0 [] 0 0 [] (.slice none 0 0)) 30)).alloc (.cells (cellsB 5 t 0 0 [] 0 0 n (.slice a m cap)) 30)));have HR0:=aB (keep_b (aV (W.alloc (.cells (cellsB 5 t v1 v2 v3 p o n (.slice a m cap)) 73)) (.cells (cellsB 0 0 0 0 [] 0 0 [] (.slice none 0 0)) 30) (k:=W.heap.size+1) (by simp)) ((Bl.refl _).alloc (.cells (cellsB 5 t 0 0 [] 0 0 n (.slice a m cap)) 30)));have HO0:=aB (aV ((W.alloc (.cells (cellsB 5 t v1 v2 v3 p o n (.slice a m cap)) 73)).alloc (.cells (cellsB 0 0 0 0 [] 0 0 [] (.slice none 0 0)) 30)) (.cells (cellsB 5 t 0 0 [] 0 0 n (.slice a m cap)) 30) (k:=W.heap.size+1+1) (by simp));have HB0:=aB ((((Bl.refl W).alloc (.cells (cellsB 5 t v1 v2 v3 p o n (.slice a m cap)) 73)).alloc (.cells (cellsB 0 0 0 0 [] 0 0 [] (.slice none 0 0)) 30)).alloc (.cells (cellsB 5 t 0 0 [] 0 0 n (.slice a m cap)) 30));go_enter Tryz.func67,Tryz.ntmps67;go_wp2_with fail;obtain⟨w0,hw0⟩:∃w0,((W.alloc (.cells (cellsB 5 t v1 v2 v3 p o n (.slice a m cap)) 73)).alloc (.cells (cellsB 0 0 0 0 [] 0 0 [] (.slice none 0 0)) 30)).alloc (.cells (cellsB 5 t 0 0 [] 0 0 n (.slice a m cap)) 30)=w0:=⟨_,rfl⟩
 have hz0:w0.heap.size=W.heap.size+1+1+1:=(by rw[<-hw0];simp);rw[hw0] at HX0 HR0 HO0 HB0⊢;clear hw0;refine(kN (t:=9) (show(w0.alloc (.cells #[S [99,111,117,110,116],S [115,117,109],S [109,105,110],S [109,97,120]] 9)).heap[W.heap.size+1+1+1]?=_ from aV w0 _ (k:=W.heap.size+1+1+1) hz0.symm) n).mono ?_;rintro e w4 ⟨rfl,rfl⟩;rw[hs];have HX5:=aB (keep_b HX0.o ((Bl.refl w0).alloc (.cells #[S [99,111,117,110,116],S [115,117,109],S [109,105,110],S [109,97,120]] 9)));have HO5:=aB (keep_b HO0.o ((Bl.refl w0).alloc (.cells #[S [99,111,117,110,116],S [115,117,109],S [109,105,110],S [109,97,120]] 9)));have HR5:=aB (keep_b HR0.o ((Bl.refl w0).alloc (.cells #[S [99,111,117,110,116],S [115,117,109],S [109,105,110],S [109,97,120]] 9)));have HB5:=aB (HB0.o.alloc (.cells #[S [99,111,117,110,116],S [115,117,109],S [109,105,110],S [109,97,120]] 9));clear HX0 HO0 HR0 HB0;have HX0:=HX5;have HO0:=HO5;have HR0:=HR5;have HB0:=HB5;clear HX5 HO5 HR5 HB5 hz0;go_wp2_with fail;generalize w0.alloc (.cells #[S [99,111,117,110,116],S [115,117,109],S [109,105,110],S [109,97,120]] 9)=w1 at *;refine wp_region_noPanic (bM (fun B=>B.heap[W.heap.size]?=some (.cells (cellsB 5 t v1 v2 v3 p o n (.slice a m cap)) 73 (0,0))/\B.heap[W.heap.size+1+1]?=some (.cells (cellsB 5 t 0 0 [] 0 0 n (.slice a m cap)) 30 (0,0))) ((.take 0 (.take 1 (.take 2 (.take 3 (.take 4 (.take 5 (.take 6 (.take 7 (.take 8 (.take 9 (.take 10 (.take 11 (.take 12 (.take 13 (.take 14 (.take 15 (.take 16 (.take 17 (.take 18 (.take 19 (.take 20 (.take 21 (.one 22 (.take 23 .done))))))))))))))))))))))))) (by kernel_rfl) (by kernel_rfl) (by kernel_rfl) (fun _ _ _ _ _ h=>h) (⟨HX0.o,HO0.o⟩) ?_);intro wd HWD hY;iterate 10 (refine aI rfl (by rfl) (by intro w hSw;(try dsimp only at hSw);obtain⟨e0,e1,e2,e3,e4,e5,e6,e7,e8⟩:=nine hSw.1;obtain⟨f0,f1,f2,f3,f4,f5,f6,f7,f8⟩:=nine hSw.2;go_simp;(try(first |with_reducible rfl|rfl))) ?_;(try simp only[aK,aA,aD,aF]))
 refine dK rfl (by rfl) ?_;(try simp only[aK,aA,aD,aF])
 refine dK rfl (by rfl) ?_;(try simp only[aK,aA,aD,aF])
 refine dK rfl (by rfl) ?_;(try simp only[aK,aA,aD,aF])
 refine dK rfl (by rfl) ?_;(try simp only[aK,aA,aD,aF])
 refine dK rfl (by rfl) ?_;(try simp only[aK,aA,aD,aF])
 refine dK rfl (by rfl) ?_;(try simp only[aK,aA,aD,aF])
 refine dK rfl (by rfl) ?_;(try simp only[aK,aA,aD,aF])
 refine dK rfl (by rfl) ?_;(try simp only[aK,aA,aD,aF])
 refine dK rfl (by rfl) ?_;(try simp only[aK,aA,aD,aF])
 refine dK rfl (by rfl) ?_;(try simp only[aK,aA,aD,aF])
 refine dK rfl (by rfl) ?_;(try simp only[aK,aA,aD,aF])
 refine aI rfl (by rfl) (by intro w hSw;(try dsimp only at hSw);obtain⟨e0,e1,e2,e3,e4,e5,e6,e7,e8⟩:=nine hSw.1;obtain⟨f0,f1,f2,f3,f4,f5,f6,f7,f8⟩:=nine hSw.2;go_simp;(try(first |with_reducible rfl|rfl))) ?_;(try simp only[aK,aA,aD,aF])
 refine aL rfl (fun K hK=>?_);rw[if_pos (by rfl)];refine bC rfl rfl rfl ([.int .i64 5,.int .i64 t,.int .i64 0,.int .i64 0,S [],.int .i64 0,.int .i64 0,S n,.slice a m cap]) (keep_b HR0.o (HWD.o)) rfl rfl bdInfo rfl ?_;intro w9 hB9 hX9;refine hK.o _ _ ((by first |exact⟨keep_b hY.1 hB94,keep_b hY.2 hB94⟩|exact⟨(hB9.same _ (by omega)).trans hY.1,(hB9.same _ (by omega)).trans hY.2⟩)) ?_;clear hY hK K;intro hY;(try simp only[aK])
 refine aI rfl (by rfl) (by intro w hSw;(try dsimp only at hSw);obtain⟨e0,e1,e2,e3,e4,e5,e6,e7,e8⟩:=nine hSw.1;obtain⟨f0,f1,f2,f3,f4,f5,f6,f7,f8⟩:=nine hSw.2;go_simp;(try(first |with_reducible rfl|rfl))) ?_;(try simp only[aK,aA,aD,aF])
 refine fO (bF ?_);obtain⟨q0,q1,q2,q3,q4,q5,q6,q7,q8⟩:=nine hX9;go_wp2;exact bodyPost_ret (v:= .tuple #[BdV 5 t (0,0,[]) 0 0 n (.slice a m cap),.bool false]) (by simp[results,Tryz.results67,go_sem,q0,q1,q2,q3,q4,q5,q6,q7,q8]) rfl ⟨rfl,hB9.bl (HB0.o.call HWD.o) (by omega)⟩
theorem bare5_c(t v1 v2 p o:Int)(v3 n:List UInt8)(a:Option Addr)(m cap:Nat)(c:Int)(hs:gP.contains n=true)(h1:decide ((m:Int)<=1)=true)(h2:((m:Int)==1)=true)(W:World):
  Calls Tryz.prog 67 #[BdV 5 t (v1,v2,v3) p o n (.slice a m cap),.int .i64 c] W fun e w'=>e= .returned (.tuple #[BdV 5 t (0,0,[]) 0 0 n (.slice a m cap),.bool true])/\Bl W w':=by
 have HX0:=aB (keep_b (aN W (.cells (cellsB 5 t v1 v2 v3 p o n (.slice a m cap)) 73)) (((Bl.refl _).alloc (.cells (cellsB 0 0 0 0 [] 0 0 [] (.slice none 0 0)) 30)).alloc (.cells (cellsB 5 t 0 0 [] 0 0 n (.slice a m cap)) 30)));have HR0:=aB (keep_b (aV (W.alloc (.cells (cellsB 5 t v1 v2 v3 p o n (.slice a m cap)) 73)) (.cells (cellsB 0 0 0 0 [] 0 0 [] (.slice none 0 0)) 30) (k:=W.heap.size+1) (by simp)) ((Bl.refl _).alloc (.cells (cellsB 5 t 0 0 [] 0 0 n (.slice a m cap)) 30)));have HO0:=aB (aV ((W.alloc (.cells (cellsB 5 t v1 v2 v3 p o n (.slice a m cap)) 73)).alloc (.cells (cellsB 0 0 0 0 [] 0 0 [] (.slice none 0 0)) 30)) (.cells (cellsB 5 t 0 0 [] 0 0 n (.slice a m cap)) 30) (k:=W.heap.size+1+1) (by simp));have HB0:=aB ((((Bl.refl W).alloc (.cells (cellsB 5 t v1 v2 v3 p o n (.slice a m cap)) 73)).alloc (.cells (cellsB 0 0 0 0 [] 0 0 [] (.slice none 0 0)) 30)).alloc (.cells (cellsB 5 t 0 0 [] 0 0 n (.slice a m cap)) 30));go_enter Tryz.func67,Tryz.ntmps67;go_wp2_with fail;obtain⟨w0,hw0⟩:∃w0,((W.alloc (.cells (cellsB 5 t v1 v2 v3 p o n (.slice a m cap)) 73)).alloc (.cells (cellsB 0 0 0 0 [] 0 0 [] (.slice none 0 0)) 30)).alloc (.cells (cellsB 5 t 0 0 [] 0 0 n (.slice a m cap)) 30)=w0:=⟨_,rfl⟩
 have hz0:w0.heap.size=W.heap.size+1+1+1:=(by rw[<-hw0];simp);rw[hw0] at HX0 HR0 HO0 HB0⊢;clear hw0;refine(kN (t:=9) (show(w0.alloc (.cells #[S [99,111,117,110,116],S [115,117,109],S [109,105,110],S [109,97,120]] 9)).heap[W.heap.size+1+1+1]?=_ from aV w0 _ (k:=W.heap.size+1+1+1) hz0.symm) n).mono ?_;rintro e w4 ⟨rfl,rfl⟩;rw[hs];have HX5:=aB (keep_b HX0.o ((Bl.refl w0).alloc (.cells #[S [99,111,117,110,116],S [115,117,109],S [109,105,110],S [109,97,120]] 9)));have HO5:=aB (keep_b HO0.o ((Bl.refl w0).alloc (.cells #[S [99,111,117,110,116],S [115,117,109],S [109,105,110],S [109,97,120]] 9)));have HR5:=aB (keep_b HR0.o ((Bl.refl w0).alloc (.cells #[S [99,111,117,110,116],S [115,117,109],S [109,105,110],S [109,97,120]] 9)));have HB5:=aB (HB0.o.alloc (.cells #[S [99,111,117,110,116],S [115,117,109],S [109,105,110],S [109,97,120]] 9));clear HX0 HO0 HR0 HB0;have HX0:=HX5;have HO0:=HO5;have HR0:=HR5;have HB0:=HB5;clear HX5 HO5 HR5 HB5 hz0;go_wp2_with fail;generalize w0.alloc (.cells #[S [99,111,117,110,116],S [115,117,109],S [109,105,110],S [109,97,120]] 9)=w1 at *;refine wp_region_noPanic (bM (fun B=>B.heap[W.heap.size]?=some (.cells (cellsB 5 t v1 v2 v3 p o n (.slice a m cap)) 73 (0,0))/\B.heap[W.heap.size+1+1]?=some (.cells (cellsB 5 t 0 0 [] 0 0 n (.slice a m cap)) 30 (0,0))) ((.take 0 (.take 1 (.take 2 (.take 3 (.take 4 (.take 5 (.take 6 (.take 7 (.take 8 (.take 9 (.take 10 (.take 11 (.take 12 (.take 13 (.take 14 (.take 15 (.take 16 (.take 17 (.take 18 (.take 19 (.take 20 (.take 21 (.one 22 (.take 23 .done))))))))))))))))))))))))) (by kernel_rfl) (by kernel_rfl) (by kernel_rfl) (fun _ _ _ _ _ h=>h) (⟨HX0.o,HO0.o⟩) ?_);intro wd HWD hY;iterate 16 (refine aI rfl (by rfl) (by intro w hSw;(try dsimp only at hSw);obtain⟨e0,e1,e2,e3,e4,e5,e6,e7,e8⟩:=nine hSw.1;obtain⟨f0,f1,f2,f3,f4,f5,f6,f7,f8⟩:=nine hSw.2;go_simp;(try(first |with_reducible rfl|rfl))) ?_;(try simp only[aK,aA,aD,aF]))
 refine dK rfl (by rfl) ?_;(try simp only[aK,aA,aD,aF])
 refine dK rfl (by rfl) ?_;(try simp only[aK,aA,aD,aF])
 refine dK rfl (by rfl) ?_;(try simp only[aK,aA,aD,aF])
 refine dK rfl (by rfl) ?_;(try simp only[aK,aA,aD,aF])
 iterate 2 (refine aI rfl (by rfl) (by intro w hSw;(try dsimp only at hSw);obtain⟨e0,e1,e2,e3,e4,e5,e6,e7,e8⟩:=nine hSw.1;obtain⟨f0,f1,f2,f3,f4,f5,f6,f7,f8⟩:=nine hSw.2;go_simp;(try(first |with_reducible rfl|rfl))) ?_;(try simp only[aK,aA,aD,aF]))
 refine aL rfl (fun K hK=>?_);rw[if_pos (by rfl)];refine bC rfl rfl rfl ([.int .i64 5,.int .i64 t,.int .i64 0,.int .i64 0,S [],.int .i64 0,.int .i64 0,S n,.slice a m cap]) (keep_b HR0.o (HWD.o)) rfl rfl bdInfo rfl ?_;intro w9 hB9 hX9;refine hK.o _ _ ((by first |exact⟨keep_b hY.1 hB94,keep_b hY.2 hB94⟩|exact⟨(hB9.same _ (by omega)).trans hY.1,(hB9.same _ (by omega)).trans hY.2⟩)) ?_;clear hY hK K;intro hY;(try simp only[aK])
 refine aI rfl (by rfl) (by intro w hSw;(try dsimp only at hSw);obtain⟨e0,e1,e2,e3,e4,e5,e6,e7,e8⟩:=nine hSw.1;obtain⟨f0,f1,f2,f3,f4,f5,f6,f7,f8⟩:=nine hSw.2;go_simp;(try(first |with_reducible rfl|rfl))) ?_;(try simp only[aK,aA,aD,aF])
 refine fO (bF ?_);obtain⟨q0,q1,q2,q3,q4,q5,q6,q7,q8⟩:=nine hX9;go_wp2;exact bodyPost_ret (v:= .tuple #[BdV 5 t (0,0,[]) 0 0 n (.slice a m cap),.bool true]) (by simp[results,Tryz.results67,go_sem,q0,q1,q2,q3,q4,q5,q6,q7,q8]) rfl ⟨rfl,hB9.bl (HB0.o.call HWD.o) (by omega)⟩
theorem bare5_d(t v1 v2 p o:Int)(v3 n:List UInt8)(a:Option Addr)(m cap:Nat)(c:Int)(hs:gP.contains n=true)(h1:decide ((m:Int)<=1)=true)(h2:((m:Int)==1)=false)(W:World):
  Calls Tryz.prog 67 #[BdV 5 t (v1,v2,v3) p o n (.slice a m cap),.int .i64 c] W fun e w'=>e= .returned (.tuple #[BdV 5 t (0,0,[]) 0 0 n (.slice a m cap),.bool (n==[99,111,117,110,116])])/\Bl W w':=by
 have HX0:=aB (keep_b (aN W (.cells (cellsB 5 t v1 v2 v3 p o n (.slice a m cap)) 73)) (((Bl.refl _).alloc (.cells (cellsB 0 0 0 0 [] 0 0 [] (.slice none 0 0)) 30)).alloc (.cells (cellsB 5 t 0 0 [] 0 0 n (.slice a m cap)) 30)));have HR0:=aB (keep_b (aV (W.alloc (.cells (cellsB 5 t v1 v2 v3 p o n (.slice a m cap)) 73)) (.cells (cellsB 0 0 0 0 [] 0 0 [] (.slice none 0 0)) 30) (k:=W.heap.size+1) (by simp)) ((Bl.refl _).alloc (.cells (cellsB 5 t 0 0 [] 0 0 n (.slice a m cap)) 30)));have HO0:=aB (aV ((W.alloc (.cells (cellsB 5 t v1 v2 v3 p o n (.slice a m cap)) 73)).alloc (.cells (cellsB 0 0 0 0 [] 0 0 [] (.slice none 0 0)) 30)) (.cells (cellsB 5 t 0 0 [] 0 0 n (.slice a m cap)) 30) (k:=W.heap.size+1+1) (by simp));have HB0:=aB ((((Bl.refl W).alloc (.cells (cellsB 5 t v1 v2 v3 p o n (.slice a m cap)) 73)).alloc (.cells (cellsB 0 0 0 0 [] 0 0 [] (.slice none 0 0)) 30)).alloc (.cells (cellsB 5 t 0 0 [] 0 0 n (.slice a m cap)) 30));go_enter Tryz.func67,Tryz.ntmps67;go_wp2_with fail;obtain⟨w0,hw0⟩:∃w0,((W.alloc (.cells (cellsB 5 t v1 v2 v3 p o n (.slice a m cap)) 73)).alloc (.cells (cellsB 0 0 0 0 [] 0 0 [] (.slice none 0 0)) 30)).alloc (.cells (cellsB 5 t 0 0 [] 0 0 n (.slice a m cap)) 30)=w0:=⟨_,rfl⟩
 have hz0:w0.heap.size=W.heap.size+1+1+1:=(by rw[<-hw0];simp);rw[hw0] at HX0 HR0 HO0 HB0⊢;clear hw0;refine(kN (t:=9) (show(w0.alloc (.cells #[S [99,111,117,110,116],S [115,117,109],S [109,105,110],S [109,97,120]] 9)).heap[W.heap.size+1+1+1]?=_ from aV w0 _ (k:=W.heap.size+1+1+1) hz0.symm) n).mono ?_;rintro e w4 ⟨rfl,rfl⟩;rw[hs];have HX5:=aB (keep_b HX0.o ((Bl.refl w0).alloc (.cells #[S [99,111,117,110,116],S [115,117,109],S [109,105,110],S [109,97,120]] 9)));have HO5:=aB (keep_b HO0.o ((Bl.refl w0).alloc (.cells #[S [99,111,117,110,116],S [115,117,109],S [109,105,110],S [109,97,120]] 9)));have HR5:=aB (keep_b HR0.o ((Bl.refl w0).alloc (.cells #[S [99,111,117,110,116],S [115,117,109],S [109,105,110],S [109,97,120]] 9)));have HB5:=aB (HB0.o.alloc (.cells #[S [99,111,117,110,116],S [115,117,109],S [109,105,110],S [109,97,120]] 9));clear HX0 HO0 HR0 HB0;have HX0:=HX5;have HO0:=HO5;have HR0:=HR5;have HB0:=HB5;clear HX5 HO5 HR5 HB5 hz0;go_wp2_with fail;generalize w0.alloc (.cells #[S [99,111,117,110,116],S [115,117,109],S [109,105,110],S [109,97,120]] 9)=w1 at *;refine wp_region_noPanic (bM (fun B=>B.heap[W.heap.size]?=some (.cells (cellsB 5 t v1 v2 v3 p o n (.slice a m cap)) 73 (0,0))/\B.heap[W.heap.size+1+1]?=some (.cells (cellsB 5 t 0 0 [] 0 0 n (.slice a m cap)) 30 (0,0))) ((.take 0 (.take 1 (.take 2 (.take 3 (.take 4 (.take 5 (.take 6 (.take 7 (.take 8 (.take 9 (.take 10 (.take 11 (.take 12 (.take 13 (.take 14 (.take 15 (.take 16 (.take 17 (.take 18 (.take 19 (.take 20 (.take 21 (.one 22 (.take 23 .done))))))))))))))))))))))))) (by kernel_rfl) (by kernel_rfl) (by kernel_rfl) (fun _ _ _ _ _ h=>h) (⟨HX0.o,HO0.o⟩) ?_);intro wd HWD hY;iterate 22 (refine aI rfl (by rfl) (by intro w hSw;(try dsimp only at hSw);obtain⟨e0,e1,e2,e3,e4,e5,e6,e7,e8⟩:=nine hSw.1;obtain⟨f0,f1,f2,f3,f4,f5,f6,f7,f8⟩:=nine hSw.2;go_simp;(try(first |with_reducible rfl|rfl))) ?_;(try simp only[aK,aA,aD,aF]))
 refine aL rfl (fun K hK=>?_);rw[if_pos (by rfl)];refine bC rfl rfl rfl ([.int .i64 5,.int .i64 t,.int .i64 0,.int .i64 0,S [],.int .i64 0,.int .i64 0,S n,.slice a m cap]) (keep_b HR0.o (HWD.o)) rfl rfl bdInfo rfl ?_;intro w9 hB9 hX9;refine hK.o _ _ ((by first |exact⟨keep_b hY.1 hB94,keep_b hY.2 hB94⟩|exact⟨(hB9.same _ (by omega)).trans hY.1,(hB9.same _ (by omega)).trans hY.2⟩)) ?_;clear hY hK K;intro hY;(try simp only[aK])
 refine aI rfl (by rfl) (by intro w hSw;(try dsimp only at hSw);obtain⟨e0,e1,e2,e3,e4,e5,e6,e7,e8⟩:=nine hSw.1;obtain⟨f0,f1,f2,f3,f4,f5,f6,f7,f8⟩:=nine hSw.2;go_simp;(try(first |with_reducible rfl|rfl))) ?_;(try simp only[aK,aA,aD,aF])
 refine fO (bF ?_);obtain⟨q0,q1,q2,q3,q4,q5,q6,q7,q8⟩:=nine hX9;go_wp2;exact bodyPost_ret (v:= .tuple #[BdV 5 t (0,0,[]) 0 0 n (.slice a m cap),.bool (n==[99,111,117,110,116])]) (by simp[results,Tryz.results67,go_sem,q0,q1,q2,q3,q4,q5,q6,q7,q8]) rfl ⟨rfl,hB9.bl (HB0.o.call HWD.o) (by omega)⟩
end
section
def bareD:Bd->Bd
 | .mk k t v p o n l=>
  if k=1 then .mk k t v 0 0 [] l else if k=2 then .mk k t zVl p 0 [] l else if k=3 then .mk k t zVl 0 o [] l
  else if k=4 then .mk k t zVl 0 0 [] l else if k=5 then .mk k t zVl 0 0 n l else .mk k t zVl 0 0 [] l
def isD(c:Int):Bd->Bool
 | .mk k t v p _ n l=>
  if k=1 then okVl v&&((l.length:Int)==0)
  else if k=2 then decide (0<=p)&&(decide (p<c)&&(decide (1<=t)&&(decide (t<=4)&&((l.length:Int)==0))))
  else if k=3 then true
  else if k=4 then decide ((0:Int)<l.length)
  else if k=5 then gP.contains n&&(decide ((l.length:Int)<=1)&&(((l.length:Int)==1)||n==gX))
  else false
theorem bare_args(x:Bd):(bareD x).args=x.args/\(bareD x).k=x.k/\(bareD x).t=x.t:=by
 obtain⟨k,t,v,p,o,n,l⟩:=x;simp only[bareD]
 repeat' split
 all_goals exact⟨rfl,rfl,rfl⟩
theorem zero_beq(x:Int):((0:Int)==x)=(x==0):=by rw[kC,beq_iff_eq,beq_iff_eq];exact⟨Eq.symm,Eq.symm⟩
theorem nil_beq(x:List UInt8):(([]:List UInt8)==x)=(x==[]):=by rw[kC,beq_iff_eq,beq_iff_eq];exact⟨Eq.symm,Eq.symm⟩
theorem zVl_beq(x:Vl):(zVl==x)=(x==zVl):=by rw[kC,beq_iff_eq,beq_iff_eq];exact⟨Eq.symm,Eq.symm⟩
theorem isEmpty_len(l:List Bd):l.isEmpty=((l.length:Int)==0):=by
 cases l with
 |nil=>rfl
 |cons x r=>
  show false=_
  symm
  simp only[aX,beq_eq_false_iff_ne];omega
theorem right1_bare(c:Int)(x:Bd):rightD1 c x=(isD c x&&sameD (bareD x) x):=by
 obtain⟨k,t,v,p,o,n,l⟩:=x;have hs:samesD l l=true:=samesD_self l;simp only[rightD1,isD,bareD];by_cases h1:k=1
 ·subst h1;simp only[if_true,sameD,hs,beq_self_eq_true,rC,Bool.and_true,isEmpty_len,zero_beq,nil_beq]
  ac_rfl
 by_cases h2:k=2
 ·subst h2;simp only[if_true,sameD,hs,beq_self_eq_true,rC,Bool.and_true,isEmpty_len,zVl_beq,zero_beq,nil_beq,show((2:Int)=1)=False from by simp,if_false]
  ac_rfl
 by_cases h3:k=3
 ·subst h3;simp only[if_true,sameD,hs,beq_self_eq_true,rC,Bool.and_true,zVl_beq,zero_beq,nil_beq,show((3:Int)=1)=False from by simp,show((3:Int)=2)=False from by simp,if_false]
 by_cases h4:k=4
 ·subst h4;have hne:(!l.isEmpty)=decide ((0:Int)<l.length):=by
   cases l with
   |nil=>rfl
   |cons x r=>
    show true=_
    symm
    rw[decide_eq_true_eq,aX];omega
  simp only[if_true,sameD,hs,beq_self_eq_true,rC,Bool.and_true,hne,zVl_beq,zero_beq,nil_beq,show((4:Int)=1)=False from by simp,show((4:Int)=2)=False from by simp,show((4:Int)=3)=False from by simp,if_false]
  ac_rfl
 by_cases h5:k=5
 ·subst h5;have hlen:(l.length==1||l.isEmpty&&n==gX)=(decide ((l.length:Int)<=1)&&(((l.length:Int)==1)||n==gX)):=by
   match l with
   |[]=>rfl
   |[x]=>rfl
   |x::y::r=>
    have e1:((x::y::r).length==1)=false:=(by rw[beq_eq_false_iff_ne,aX,aX];omega);have e2:decide (((x::y::r).length:Int)<=1)=false:=(by rw[decide_eq_false_iff_not,aX,aX];omega);rw[e1,e2];rfl
  simp only[if_true,sameD,hs,beq_self_eq_true,rC,Bool.and_true,hlen,zVl_beq,zero_beq,show((5:Int)=1)=False from by simp,show((5:Int)=2)=False from by simp,show((5:Int)=3)=False from by simp,show((5:Int)=4)=False from by simp,if_false]
  ac_rfl
 simp only[h1,h2,h3,h4,h5,if_false,pK]
theorem bubare_any(x:Bd)(c:Int)(a:Option Addr)(cap:Nat)(W:World):
  Calls Tryz.prog 67 #[BdV x.k x.t x.v x.p x.o x.n (.slice a x.args.length cap),.int .i64 c] W fun e w'=>
   e= .returned (.tuple #[BdV (bareD x).k (bareD x).t (bareD x).v (bareD x).p (bareD x).o (bareD x).n (.slice a x.args.length cap),.bool (isD c x)])/\Bl W w':=by
 obtain⟨k,t,⟨v1,v2,v3⟩,p,o,n,l⟩:=x;simp only[Bd.k,Bd.t,Bd.v,Bd.p,Bd.o,Bd.n,Bd.args,bareD,isD];by_cases h1:k=1
 ·subst h1;by_cases hc:chk v1 v2 v3=0
  ·have e:okVl (v1,v2,v3)=true:=by unfold okVl;simp[hc]
   simp only[if_true,e,rC];exact bare1_yes t v1 v2 p o v3 n a l.length cap c hc W
  ·have e:okVl (v1,v2,v3)=false:=by unfold okVl;simp[hc]
   simp only[if_true,e,pK];exact bare1_no t v1 v2 p o v3 n a l.length cap c hc W
 by_cases h2:k=2
 ·subst h2;simp only[show((2:Int)=1)=False from by simp,if_false,if_true];cases q1:decide (0<=p)
  ·exact bare2_a t v1 v2 p o v3 n a l.length cap c q1 W
  cases q2:decide (p<c)
  ·exact bare2_b t v1 v2 p o v3 n a l.length cap c q1 q2 W
  cases q3:decide (1<=t)
  ·exact bare2_c t v1 v2 p o v3 n a l.length cap c q1 q2 q3 W
  cases q4:decide (t<=4)
  ·exact bare2_d t v1 v2 p o v3 n a l.length cap c q1 q2 q3 q4 W
  exact bare2_e t v1 v2 p o v3 n a l.length cap c q1 q2 q3 q4 W
 by_cases h3:k=3
 ·subst h3;simp only[show((3:Int)=1)=False from by simp,show((3:Int)=2)=False from by simp,if_false,if_true];exact bare3_any t v1 v2 p o v3 n a l.length cap c W
 by_cases h4:k=4
 ·subst h4;simp only[show((4:Int)=1)=False from by simp,show((4:Int)=2)=False from by simp,show((4:Int)=3)=False from by simp,if_false,if_true];exact bare4_any t v1 v2 p o v3 n a l.length cap c W
 by_cases h5:k=5
 ·subst h5;simp only[show((5:Int)=1)=False from by simp,show((5:Int)=2)=False from by simp,show((5:Int)=3)=False from by simp,show((5:Int)=4)=False from by simp,if_false,if_true];cases q1:gP.contains n
  ·exact bare5_a t v1 v2 p o v3 n a l.length cap c q1 W
  cases q2:decide ((l.length:Int)<=1)
  ·exact bare5_b t v1 v2 p o v3 n a l.length cap c q1 q2 W
  cases q3:((l.length:Int)==1)
  ·exact bare5_d t v1 v2 p o v3 n a l.length cap c q1 q2 q3 W
  exact bare5_c t v1 v2 p o v3 n a l.length cap c q1 q2 q3 W
 simp only[h1,h2,h3,h4,h5,if_false];exact bare0_any t v1 v2 p o v3 n a l.length cap c k (by simpa using h1) (by simpa using h2) (by simpa using h3) (by simpa using h4) (by simpa using h5) W
end
section
theorem allT_false(l:List Int):∀a,(allT false a l).2=0:=by
 induction l with
 |nil=>intro a;rfl
 |cons t r ih=>
  intro a;simp only[allT,fM,false_and,if_false];exact ih _
theorem allT_one(l:List Int)(h:l.length<=1):allT true 0 l=allT false 0 l:=by
 match l,h with
 |[],_=>rfl
 |[t],_=>simp[allT]
 |_::_::_,h=>simp only[aX] at h;omega
theorem typeOK_kind(x:Bd)(hk:1<=x.k/\x.k<=5)(h5:x.k=5->x.args.length<=1):typeOK x=true↔(kindR x).2=0/\(kindR x).1=x.t:=by
 obtain⟨k,t,v,p,o,n,l⟩:=x;simp only[Bd.k,Bd.args,Bd.t] at *;have hw:k=1\/k=2\/k=3\/k=4\/k=5:=(by omega);have pairs:∀q:Int×Int,(q==(t,0))=true↔q.2=0/\q.1=t:=fun q=>by
  obtain⟨q1,q2⟩:=q;simp only[beq_iff_eq,Prod.mk.injEq];exact And.comm
 unfold typeOK typeD kindR;simp only[Bd.k,Bd.t,Bd.v,Bd.o,Bd.n,Bd.args];rcases hw with rfl|rfl|rfl|rfl|rfl
 ·rw[pairs,if_neg (by rw[show decide ((1:Int)=4)=false from rfl,allT_false];exact fun h=>h rfl)];simp
 ·rw[pairs,if_neg (by rw[show decide ((2:Int)=4)=false from rfl,allT_false];exact fun h=>h rfl)];simp
 ·rw[pairs,if_neg (by rw[show decide ((3:Int)=4)=false from rfl,allT_false];exact fun h=>h rfl)];simp
 ·rw[pairs,show decide ((4:Int)=4)=true from rfl];by_cases h:(allT true 0 (l.map Bd.t)).2=0
  ·simp[h]
  ·simp[h]
 ·rw[pairs,show decide ((5:Int)=4)=false from rfl,<-allT_one _ (by simpa using h5 rfl)];have hz:(allT true 0 (l.map Bd.t)).2=0:=(by rw[allT_one _ (by simpa using h5 rfl),allT_false]);rw[if_neg (fun h=>h hz)];unfold sumT;rw[hz];simp only[show((5:Int)=1)=False from by simp,show((5:Int)=2)=False from by simp,show((5:Int)=3)=False from by simp,show((5:Int)=4)=False from by simp,if_false,if_true,ne_eq,not_true_eq_false];split
  ·simp
  ·split
   ·simp
   ·exact Iff.rfl
theorem isD_kind{c:Int}{x:Bd}(h:isD c x=true):(1<=x.k/\x.k<=5)/\(x.k=5->x.args.length<=1):=by
 obtain⟨k,t,v,p,o,n,l⟩:=x;simp only[Bd.k,Bd.args];unfold isD at h;by_cases h1:k=1
 ·omega
 by_cases h2:k=2
 ·omega
 by_cases h3:k=3
 ·omega
 by_cases h4:k=4
 ·omega
 by_cases h5:k=5
 ·subst h5;simp only[show((5:Int)=1)=False from by simp,show((5:Int)=2)=False from by simp,show((5:Int)=3)=False from by simp,show((5:Int)=4)=False from by simp,if_false,if_true,aQ,decide_eq_true_eq] at h;exact⟨by omega,fun _=>by have:=h.2.1;omega⟩
 simp only[h1,h2,h3,h4,h5,if_false] at h;cases h
theorem rightD_parts(c:Int):∀x:Bd,rightD c x=(isD c x&&sameD (bareD x) x&&rightsD c x.args&&typeOK x)
 | .mk k t v p o n l=>by
  rw[<-right1_bare];simp only[rightD,Bd.args]
theorem rightsD_drop{c:Int}{l:List Bd}{j:Nat}(hj:j<l.length):rightsD c (l.drop j)=(rightD c l[j]&&rightsD c (l.drop (j+1))):=by
 rw[aZ hj];rfl
def Fine(r:Bool)(W:World)(e:Ending)(w':World):Prop:=(r=true/\e= .returned (.tuple #[])\/r=false/\∃z:Int,z≠0/\e=panE z)/\Bl W w'
theorem bmust_any(b:Bool)(n:Int)(w:World):Calls Tryz.prog 25 #[.bool b,.int .i64 n] w fun e w'=>(b=true/\e= .returned (.tuple #[])/\w=w')\/(b=false/\e=panE n/\w=w'):=by
 cases b
 ·exact(bmust_no n w).mono fun e w' h=> .inr ⟨rfl,h.1,h.2⟩
 ·exact(bmust_yes n w).mono fun e w' h=> .inl ⟨rfl,h.1,h.2⟩
theorem buchecked_any(c:Int):∀(N:Nat) (x:Bd),partsD x<=N->N<=1000000->∀(W:World) (v:Value),ReadsD W x v->Calls Tryz.prog 47 #[v,.int .i64 c] W (Fine (rightD c x) W)
 |0,x,h,_,_,_,_=>by have:=partsD_pos x;omega
 |N+1,x,hx,hN,W,v,hv=>by
  have IH:Hid (∀y∈x.args,∀(W':World) (v:Value),ReadsD W' y v->Calls Tryz.prog 47 #[v,.int .i64 c] W' (Fine (rightD c y) W')):=fun y hy W' v hv=>buchecked_any c N y (by have:=partsD_arg hy;omega) (by omega) W' v hv;obtain⟨sv,rfl,hL⟩:=hv;obtain⟨a,cap,rfl,hc⟩:=hL.shape;have HC:=aB hc;have hlen:x.args.length<=1000000:=(by have:=partsD_len x;omega);have HSM:Hid (∀(w:World) (v u:Value),ReadsD w (bareD x) v->ReadsD w x u->Calls Tryz.prog 68 #[v,u] w fun e w'=>e= .returned (.bool (sameD (bareD x) x))/\Bl w w'):=fun w v u hv hu=>
   bSame_any 1000000 (bareD x) x (by
    have h1:=(bare_args x).1;cases hb:bareD x with
    |mk k t v p o n l=>
     rw[hb] at h1;cases x with
     |mk k' t' v' p' o' n' l'=>
      simp only[Bd.args] at h1;subst h1;simp only[partsD] at hx⊢;omega) (aH _) w v u hv hu
  have HTY:Hid ((1<=x.k/\x.k<=5)->∀W',Bl W W'->Calls Tryz.prog 56 #[BdV x.k x.t x.v x.p x.o x.n (.slice a x.args.length cap)] W' fun e w'=>e=(if(kindR x).2=0 then .returned (BdV x.k (kindR x).1 x.v x.p x.o x.n (.slice a x.args.length cap)) else panE (kindR x).2)/\Bl W' w'):=fun hk W' hb=>butyped_any x hk (by omega) W' _ (hL.bl hb);have HKD:=aB (fun(h:isD c x=true)=>isD_kind h);have HOK:=aB (typeOK_kind x);have HPT:=aB (rightD_parts c x);have HL:=aB hL;obtain⟨R,HR⟩:∃R,Hid (rightD c x=R):=⟨_,rfl⟩
  rw[HR.o];obtain⟨b,hbd⟩:∃b,Hid (isD c x=b):=⟨_,rfl⟩
  obtain⟨y,hy⟩:∃y,bareD x=y:=⟨_,rfl⟩
  have hya:=bare_args x;rw[hy] at hya;have HY:=aB hy;rw[hy] at HSM HPT;clear hc hL hx hy;obtain⟨k,t,⟨v1,v2,v3⟩,p,o,n,args⟩:=x;simp only[Bd.k,Bd.t,Bd.v,Bd.p,Bd.o,Bd.n,Bd.args] at *;obtain⟨yk,yt,⟨y1,y2,y3⟩,yp,yo,yn,ya⟩:=y;simp only at hya;obtain⟨rfl,rfl,rfl⟩:=hya;have HBA:=aB (fun W=>bubare_any (.mk yk yt (v1,v2,v3) p o n ya) c a cap W);rw[HY.o,hbd.o] at HBA;simp only[Bd.k,Bd.t,Bd.v,Bd.p,Bd.o,Bd.n,Bd.args] at HBA;have HX0:=aB (aN W (.cells (cellsB yk yt v1 v2 v3 p o n (.slice a ya.length cap)) 73));have HB0:=aB ((Bl.refl W).alloc (.cells (cellsB yk yt v1 v2 v3 p o n (.slice a ya.length cap)) 73));cases b
  case false=>
   have HRF:=aB (show R=false from by rw[<-HR.o,HPT.o,hbd.o];rfl);go_enter Tryz.func47,Tryz.ntmps47;go_wp2_with fail;refine(HBA.o _).mono ?_;rintro e w1 ⟨rfl,hb1⟩;go_wp2_with fail
   (with_reducible refine(bmust_no _ _).mono ?_)
   rintro e w9 ⟨rfl,rfl⟩;go_wp2;exact⟨rfl,.inr ⟨HRF.o,2,by decide,rfl⟩,(HB0.o.call hb1).alloc _⟩
  obtain⟨⟨hk1,hk5⟩,ha1⟩:=HKD.o hbd.o;have HTY2:=aB (HTY.o ⟨hk1,hk5⟩);have HOK2:=aB (HOK.o ⟨hk1,hk5⟩ ha1);clear HTY HOK hk1 hk5 ha1 HKD;have HSM2:Hid (∀w,Bl W w->Calls Tryz.prog 68 #[BdV yk yt (y1,y2,y3) yp yo yn (.slice a ya.length cap),BdV yk yt (v1,v2,v3) p o n (.slice a ya.length cap)] w fun e w'=>e= .returned (.bool (sameD (.mk yk yt (y1,y2,y3) yp yo yn ya) (.mk yk yt (v1,v2,v3) p o n ya)))/\Bl w w'):=fun w hb=>HSM.o w _ _ ⟨_,rfl,HL.o.bl hb⟩ ⟨_,rfl,HL.o.bl hb⟩;clear HSM;obtain⟨q,hq⟩:∃q,Hid (sameD (.mk yk yt (y1,y2,y3) yp yo yn ya) (.mk yk yt (v1,v2,v3) p o n ya)=q):=⟨_,rfl⟩
  rw[hq.o] at HSM2;have HP2:=aB (show R=(q&&rightsD c ya&&typeOK (.mk yk yt (v1,v2,v3) p o n ya)) from by rw[<-HR.o,HPT.o,hbd.o,hq.o,rC]);clear HPT HR HY hbd hq;cases q
  case false=>
   go_enter Tryz.func47,Tryz.ntmps47;go_wp2_with fail;refine(HBA.o _).mono ?_;rintro e w1 ⟨rfl,hb1⟩;have HX1:=aB (keep_b HX0.o hb1);have HB1:=aB (HB0.o.call hb1);obtain⟨e0,e1,e2,e3,e4,e5,e6,e7,e8⟩:=nine HX1.o;have hlw:=(aC.1 HX1.o).1;clear hb1;go_wp2_with fail;refine(HSM2.o _ (HB1.o.alloc _)).mono ?_;rintro e w2 ⟨rfl,hb2⟩;go_wp2_with fail
   (with_reducible refine(bmust_no _ _).mono ?_)
   rintro e w9 ⟨rfl,rfl⟩;go_wp2;exact⟨rfl,.inr ⟨HP2.o,2,by decide,rfl⟩,(HB1.o.alloc _).call hb2⟩
  rw[rC] at HP2;obtain⟨ok,hok⟩:∃ok,Hid (typeOK (.mk yk yt (v1,v2,v3) p o n ya)=ok):=⟨_,rfl⟩
  rw[hok.o] at HP2 HOK2;generalize (kindR (.mk yk yt (v1,v2,v3) p o n ya)).1=r at *;generalize (kindR (.mk yk yt (v1,v2,v3) p o n ya)).2=d at *;go_enter Tryz.func47,Tryz.ntmps47;go_wp2_with fail;refine(HBA.o _).mono ?_;rintro e w1 ⟨rfl,hb1⟩;have HX1:=aB (keep_b HX0.o hb1);have HB1:=aB (HB0.o.call hb1);obtain⟨e0,e1,e2,e3,e4,e5,e6,e7,e8⟩:=nine HX1.o;have hlw:=(aC.1 HX1.o).1;clear hb1;go_wp2_with fail;refine(HSM2.o _ (HB1.o.alloc _)).mono ?_;rintro e w2 ⟨rfl,hb2⟩;have HX2:=aB (keep_b HX1.o (((Bl.refl w1).alloc (.cells #[.int .i64 yk,.int .i64 yt,.int .i64 y1,.int .i64 y2,S y3,.int .i64 yp,.int .i64 yo,S yn,.slice a ya.length cap] 30)).call hb2));have HB2:=aB ((HB1.o.alloc (.cells #[.int .i64 yk,.int .i64 yt,.int .i64 y1,.int .i64 y2,S y3,.int .i64 yp,.int .i64 yo,S yn,.slice a ya.length cap] 30)).call hb2);obtain⟨e0,e1,e2,e3,e4,e5,e6,e7,e8⟩:=nine HX2.o;clear hb2;go_wp2_with fail
  (with_reducible refine(bmust_yes _ _).mono ?_)
  rintro e w9 ⟨rfl,rfl⟩;go_wp2_with fail;clear e0 e1 e2 e3 e4 e5 e6 e7 e8;go_loopw [26] (fun i wr=>∃j:Nat,j<=ya.length/\i= .int .i64 (j:Int)/\Hid (R=(rightsD c (ya.drop j)&&ok))/\Hid (Bl W wr)/\Hid (wr.heap[W.heap.size]?=some (.cells (cellsB yk yt v1 v2 v3 p o n (.slice a ya.length cap)) 73 (0,0)))) (fun i _=>ya.length-(intOf i).toNat)
  case atStart=>exact⟨0,dL _,rfl,HP2.o,HB2.o,HX2.o⟩
  case round=>
   obtain⟨j,hj,rfl,HD,HB,HX⟩:=hrel;by_cases hlt:j<ya.length
   ·obtain⟨b,off,s,rfl,-,hbl,h9,hr⟩:=HC.o j hlt;have HDj:=aB (rightsD_drop (c:=c) hlt);have HM:=aB (dS hlt);obtain⟨asl,cs,rfl,-⟩:=hr.shape;have HRR:=aB (hr.bl HB.o);obtain⟨e0,e1,e2,e3,e4,e5,e6,e7,e8⟩:=(h9.keep (HB.o.block b hbl)).nine;have hlt':(j:Int)<(ya.length:Int):=(by omega);clear h9 hr;generalize ya[j]=y at *;obtain⟨k',t',⟨v1',v2',v3'⟩,p',o',nm',args'⟩:=y;simp only[Bd.k,Bd.t,Bd.v,Bd.p,Bd.o,Bd.n] at e0 e1 e2 e3 e4 e5 e6 e7 e8 HRR;go_wp2_with fail;have hRE:ReadsD (wr.alloc (.cells #[.int .i64 k',.int .i64 t',.int .i64 v1',.int .i64 v2',S v3',.int .i64 p',.int .i64 o',S nm',.slice asl args'.length cs] 30)) (.mk k' t' (v1',v2',v3') p' o' nm' args') (BdV k' t' (v1',v2',v3') p' o' nm' (.slice asl args'.length cs)):=⟨_,rfl,HRR.o.bl ((Bl.refl _).alloc _)⟩
    refine(IH.o _ HM.o _ _ hRE).mono ?_;rintro e w3 ⟨⟨hy,rfl⟩|⟨hy,z,hz,rfl⟩,hb3⟩
    ·have HN:=aB (show R=(rightsD c (ya.drop (j+1))&&ok) from by rw[HD.o,HDj.o,hy,rC]);have HB3:=aB ((HB.o.alloc (.cells #[.int .i64 k',.int .i64 t',.int .i64 v1',.int .i64 v2',S v3',.int .i64 p',.int .i64 o',S nm',.slice asl args'.length cs] 30)).call hb3);have HX3:=aB (keep_b HX.o (((Bl.refl wr).alloc (.cells #[.int .i64 k',.int .i64 t',.int .i64 v1',.int .i64 v2',S v3',.int .i64 p',.int .i64 o',S nm',.slice asl args'.length cs] 30)).call hb3));clear hy hb3 hRE e0 e1 e2 e3 e4 e5 e6 e7 e8;go_wp2;go_roundw
     case rel=>exact⟨j+1,by omega,by go_num,HN.o,HB3.o,HX3.o⟩
     case measure=>simp[intOf];omega
    ·have HN:=aB (show R=false from by rw[HD.o,HDj.o,hy];rfl);have HB3:=aB ((HB.o.alloc (.cells #[.int .i64 k',.int .i64 t',.int .i64 v1',.int .i64 v2',S v3',.int .i64 p',.int .i64 o',S nm',.slice asl args'.length cs] 30)).call hb3);have HZZ:=aB hz;clear hy hb3 hRE e0 e1 e2 e3 e4 e5 e6 e7 e8 hz;go_wp2;exact⟨rfl,.inr ⟨HN.o,z,HZZ.o,rfl⟩,HB3.o⟩
   ·obtain rfl:j=ya.length:=by omega
    have HN:=aB (show R=ok from by rw[HD.o,dO];rfl);have hge:¬((ya.length:Int)<(ya.length:Int)):=(by omega);clear HD HC IH;go_wp2_with fail;refine(bM (fun B=>B.heap[W.heap.size]?=some (.cells (cellsB yk yt v1 v2 v3 p o n (.slice a ya.length cap)) 73 (0,0))) ((.take 0 (.take 3 (.take 4 (.take 5 (.one 1 (.take 2 (.take 6 (.one 7 .done))))))))) (by kernel_rfl) (by kernel_rfl) (by kernel_rfl) (fun c a d v w h=>by cases d<;>exact h) (HX.o) ?_);intro wd HWD hY;iterate 4 (refine aI rfl (by rfl) (by intro w hSw;(try dsimp only at hSw);obtain⟨e0,e1,e2,e3,e4,e5,e6,e7,e8⟩:=nine hSw;go_simp;(try(first |with_reducible rfl|rfl))) ?_;(try simp only[aK,aA,aD,aF]))
    refine aL rfl (fun K hK=>?_);go_simp;(refine(HTY2.o _ (HB.o.call HWD.o)).mono ?_;rintro e w4 ⟨he,hb4⟩;have HB4:=aB ((HB.o.call HWD.o).call hb4);by_cases hd:d=0;rotate_left;(· rw[if_neg hd] at he;subst he;have HDD:=aB hd;clear hd;go_wp2;exact⟨rfl,.inr ⟨by rw[HN.o];exact Bool.eq_false_iff.2 (fun h=>HDD.o (HOK2.o.1 h).1),d,HDD.o,rfl⟩,HB4.o⟩);rw[if_pos hd] at he;subst he;have HDD:=aB hd;clear hd);go_wp2_with fail;refine hK.o _ _ ((by first |exact keep_b hY hb4|exact hY)) ?_;clear hY hK K;intro hY;iterate 2 (refine aI rfl (by rfl) (by intro w hSw;(try dsimp only at hSw);obtain⟨e0,e1,e2,e3,e4,e5,e6,e7,e8⟩:=nine hSw;go_simp;(try(first |with_reducible rfl|rfl))) ?_;(try simp only[aK,aA,aD,aF]))
    refine aL rfl (fun K hK=>?_);go_simp;(refine(bmust_any (r==yt) 2 _).mono ?_;rintro e w5 (⟨hg,rfl,rfl⟩|⟨hg,rfl,rfl⟩);rotate_left;(· have HG:=aB hg;clear hg;go_wp2;exact⟨rfl,.inr ⟨by rw[HN.o];exact Bool.eq_false_iff.2 (fun h=>by have h2:=(HOK2.o.1 h).2;have h3:=HG.o;rw[h2] at h3;simp at h3),2,by decide,rfl⟩,HB4.o⟩);have HG:=aB hg;clear hg);go_wp2_with fail;refine hK.o _ _ ((by first |exact keep_b hY hb4|exact hY)) ?_;clear hY hK K;intro hY;refine fO ?_;go_wp2;go_end0;exact⟨.inl ⟨by rw[HN.o];exact HOK2.o.2 ⟨HDD.o,by simpa using HG.o⟩,rfl⟩,HB4.o⟩
theorem bCheck1_any(b:Nat)(x:Int)(w:World)(hc:w.cell? ⟨b,0,none⟩=some (.int .i64 x))(hz:w.frozen? ⟨b,0,none⟩=false):Calls Tryz.prog 46 #[.pointer (some ⟨b,0,none⟩)] w fun e w'=>e= .returned (.tuple #[])/\w'=w.setCell ⟨b,0,none⟩ (.int .i64 2):=by
 go_enter Tryz.func46,Tryz.ntmps46;go_wp2;go_end0;exact⟨rfl,rfl⟩
theorem enters_bCheck1(args:Array Value)(w:World):(callFunc 46 args).run Tryz.prog w= .ok (.enter 46 args) w:=by
 simp[go_sem]
theorem bCheck_any(c:Int)(x:Bd)(hp:partsD x<=1000000)(W:World)(v:Value)(hv:ReadsD W x v):
  Calls Tryz.prog 27 #[v,.int .i64 c] W fun e w'=>e= .returned (.int .i64 (if rightD c x then 0 else 2))/\Bl W w':=by
 have HCK:Hid (∀W',Bl W W'->Calls Tryz.prog 47 #[v,.int .i64 c] W' (Fine (rightD c x) W')):=fun W' hb=>buchecked_any c _ x (aH _) hp W' v (hv.bl hb);obtain⟨R,HR⟩:∃R,Hid (rightD c x=R):=⟨_,rfl⟩
 rw[HR.o] at HCK⊢;obtain⟨sv,rfl,hR⟩:=hv;obtain⟨a,cap,rfl,-⟩:=hR.shape;clear hR hp HR;obtain⟨k,t,⟨v1,v2,v3⟩,p,o,n,args⟩:=x;simp only[Bd.k,Bd.t,Bd.v,Bd.p,Bd.o,Bd.n,Bd.args] at *;generalize args.length=m at *;have HB0:=aB (((Bl.refl W).alloc (.cells (cellsB k t v1 v2 v3 p o n (.slice a m cap)) 30)).alloc (.cells #[.int .i64 0] 37));have hx0:=aV (W.alloc (.cells (cellsB k t v1 v2 v3 p o n (.slice a m cap)) 30)) (.cells #[.int .i64 0] 37) (k:=W.heap.size+1) (by simp)
 go_enter_defers Tryz.func27,Tryz.ntmps27
 go_wp2_with fail;refine(HCK.o _ HB0.o).mono ?_;rintro e w' ⟨⟨rfl,rfl⟩|⟨rfl,z,hz,rfl⟩,hb⟩
 ·have hx1:=keep_b hx0 hb;have c1:=cK hx1;have z1:=aJ hx1 0;have HB1:=aB (HB0.o.call hb);clear hb;go_wp2_with fail;refine leaves_cons (f:=23) (args:= #[.pointer (some ⟨W.heap.size+1,0,none⟩),.func (.func 46) #[] #[.pointer (some ⟨W.heap.size+1,0,none⟩)]]) (by simp) (by simp[go_sem]) ?_;refine(bcaught_idle _ _ _).mono ?_;rintro e u' w'' ⟨rfl,rfl,rfl⟩;refine⟨.int .i64 0,?_,rfl,HB1.o.set (p:=⟨W.heap.size+1,0,none⟩) (by show W.heap.size<=W.heap.size+1;omega) _⟩;simp[results,Tryz.results27,go_sem,c1]
 ·have hx1:=keep_b hx0 hb;have c1:=cK hx1;have z1:=aJ hx1 0;have HB1:=aB (HB0.o.call hb);have hx2:=lN hx1 0 (.int .i64 z);have hx3:=lN hx2 0 (.int .i64 2);clear hb hz;unfold panE;go_wp2_with fail;refine leaves_cons (f:=23) (args:= #[.pointer (some ⟨W.heap.size+1,0,none⟩),.func (.func 46) #[] #[.pointer (some ⟨W.heap.size+1,0,none⟩)]]) (by simp) (by simp[go_sem]) ?_;have h1:=bCheck1_any (W.heap.size+1) z (w'.setCell ⟨W.heap.size+1,0,none⟩ (.int .i64 z)) (cK hx2) (aJ hx2 0);have h3:=bcaught_panic ⟨W.heap.size+1,0,none⟩ 0 z 46 #[] #[.pointer (some ⟨W.heap.size+1,0,none⟩)] #[.pointer (some ⟨W.heap.size+1,0,none⟩)] (by simp) w' (fun w1=>w1=(w'.setCell ⟨W.heap.size+1,0,none⟩ (.int .i64 z)).setCell ⟨W.heap.size+1,0,none⟩ (.int .i64 2)) c1 z1 enters_bCheck1 h1;refine h3.mono ?_;rintro e u' w'' ⟨rfl,rfl,rfl⟩;have c5:=cK hx3;refine⟨.int .i64 2,?_,rfl,(HB1.o.set (p:=⟨W.heap.size+1,0,none⟩) (by show W.heap.size<=W.heap.size+1;omega) _).set (p:=⟨W.heap.size+1,0,none⟩) (by show W.heap.size<=W.heap.size+1;omega) _⟩;simp[results,Tryz.results27,go_sem,c5]
end
end Go.Proofs.YtkimpcmkminffaaGreatDoor
