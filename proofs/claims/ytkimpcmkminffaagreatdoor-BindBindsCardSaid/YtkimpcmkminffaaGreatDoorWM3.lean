/- Texts beside the shared ones. -/
import Derived.Test.YtkimpcmkminffaaGreatDoorWX0
import Derived.Test.YtkimpcmkminffaaGreatDoorWM1
import Derived.Test.YtkimpcmkminffaaGreatDoorWM2
namespace Go.Proofs.YtkimpcmkminffaaGreatDoor
open Go.RowKit
open _root_.Go.Act renaming put->aK
open _root_.And renaming intro->bT
open _root_.Array renaming getElem?_eq_some_iff->aC
open _root_.Go.RowKit.Below renaming grown->iL
open _root_.Bool renaming and_eq_true->aQ,false_and->pK
open _root_.Go.Lib renaming cell_of_heap->aG,frozen_of_heap->aJ,hid->aB
open _root_.List renaming all_eq_true->jA,getElem?_eq_getElem->aP,getElem_mem->dS,length_map->mD,setIfInBounds_toArray->aA,set_cons_succ->aF,set_cons_zero->aD,take_length->gJ,take_of_length_le->jS
open _root_.Nat renaming le_refl->aH,zero_le->dL
open NoPanic renaming normal->bF
open _root_.Option renaming getD_some->oQ
open _root_.Go.World renaming ownsRow_nil->d2l
set_option maxRecDepth 100000
set_option maxHeartbeats 16000000
section
theorem numV_fit{n:Int}(h:fits64 n=true):resV (numV n)= .returned (V 2 n []):=by
 unfold numV;rw[h];rfl
theorem numV_off{n:Int}(h:fits64 n=false):resV (numV n)=panE 122:=by
 unfold numV;rw[h];rfl
theorem wrap_fit{n:Int}(h:fits64 n=true):IntKind.i64.wrap n=n:=by
 unfold fits64 at h;simp only[aQ,decide_eq_true_eq] at h;simp[IntKind.wrap,IntKind.bits,IntKind.signed];omega
theorem six6{W:World}{b:Nat}{x0 x1 x2 x3 x4 x5:Value}{t:TypeId}(h:W.heap[b]?=some (.cells #[x0,x1,x2,x3,x4,x5] t (0,0))):
  W.cell? ⟨b,0,none⟩=some x0/\W.cell? ⟨b,1,none⟩=some x1/\W.cell? ⟨b,2,none⟩=some x2/\W.cell? ⟨b,3,none⟩=some x3/\W.cell? ⟨b,4,none⟩=some x4/\W.cell? ⟨b,5,none⟩=some x5:=
 ⟨by rw[aG h];rfl,by rw[aG h];rfl,by rw[aG h];rfl,by rw[aG h];rfl,by rw[aG h];rfl,by rw[aG h];rfl⟩
theorem splength_any(k n:Int)(s:List UInt8)(k' n':Int)(s':List UInt8)(w:World):
  Calls Tryz.prog 161 #[PV k n s k' n' s'] w fun e w'=>e= .returned (V 2 (s.length:Int) [])/\Bl w w':=by
 have HX0:=aB ((aW (w.alloc (.cells #[.int .i64 k,.int .i64 n,S s,.int .i64 k',.int .i64 n',S s'] 162)) (.cells #[.int .i64 0,.int .i64 0,S []] 26) (by simp)).trans (aN w (.cells #[.int .i64 k,.int .i64 n,S s,.int .i64 k',.int .i64 n',S s'] 162)));have HR0:=aB (aV (w.alloc (.cells #[.int .i64 k,.int .i64 n,S s,.int .i64 k',.int .i64 n',S s'] 162)) (.cells #[.int .i64 0,.int .i64 0,S []] 26) (k:=w.heap.size+1) (by simp));have HB0:=aB (((Bl.refl w).alloc (.cells #[.int .i64 k,.int .i64 n,S s,.int .i64 k',.int .i64 n',S s'] 162)).alloc (.cells #[.int .i64 0,.int .i64 0,S []] 26));go_enter Tryz.func161,Tryz.ntmps161;go_wp2_with fail
 (with_reducible refine(snumber_yes _ _).mono ?_)
 rintro e w1 ⟨rfl,hb1⟩;have HR1:=aB ((hb1.block _ (aC.1 HR0.o).1).trans HR0.o);have HB1:=aB (HB0.o.call hb1);clear hb1;go_wp2_with (refine bA rfl rfl rfl rfl (cells3 (2,(s.length:Int),[])) HR1.o rfl rfl vlInfo rfl ?_)
 intro w9 hB9 hX9;go_wp2;refine bodyPost_ret (v:=VlV (2,(s.length:Int),[])) (results_cell_row (p:=2) (ty:=26) rfl _ _ (w.heap.size+1) 26 _ (0,0) _ rfl hX9 Tryz.underlying26 rfl vlInfo) rfl ⟨rfl,?_⟩;exact hB9.bl HB1.o (by omega)
theorem spneg_any(k n:Int)(s:List UInt8)(k' n':Int)(s':List UInt8)(ha0: -9223372036854775808<=n)(ha1:n<=9223372036854775807)(w:World):
  Calls Tryz.prog 158 #[PV k n s k' n' s'] w fun e w'=>e=resV (numV (-n))/\Bl w w':=by
 have HS:Hid (∀w,Calls Tryz.prog 154 #[PV 0 0 [] k n s] w fun e w'=>e=resV (numV (-n))/\Bl w w'):=fun w=>by
  have h:=spsub_any 0 0 [] k n s (by decide) (by decide) ha0 ha1 w;rw[Int.zero_sub] at h;exact h
 cases hf:fits64 (-n)
 ·rw[numV_off hf] at HS⊢;have HX0:=aB ((aW (w.alloc (.cells #[.int .i64 k,.int .i64 n,S s,.int .i64 k',.int .i64 n',S s'] 162)) (.cells #[.int .i64 0,.int .i64 0,S []] 26) (by simp)).trans (aN w (.cells #[.int .i64 k,.int .i64 n,S s,.int .i64 k',.int .i64 n',S s'] 162)));have HR0:=aB (aV (w.alloc (.cells #[.int .i64 k,.int .i64 n,S s,.int .i64 k',.int .i64 n',S s'] 162)) (.cells #[.int .i64 0,.int .i64 0,S []] 26) (k:=w.heap.size+1) (by simp));have HB0:=aB (((Bl.refl w).alloc (.cells #[.int .i64 k,.int .i64 n,S s,.int .i64 k',.int .i64 n',S s'] 162)).alloc (.cells #[.int .i64 0,.int .i64 0,S []] 26));go_enter Tryz.func158,Tryz.ntmps158;go_wp2_with fail;refine(HS.o _).mono ?_;rintro e w1 ⟨rfl,hb1⟩;go_wp2;exact⟨rfl,rfl,HB0.o.call hb1⟩
 ·rw[numV_fit hf] at HS⊢;have HX0:=aB ((aW (w.alloc (.cells #[.int .i64 k,.int .i64 n,S s,.int .i64 k',.int .i64 n',S s'] 162)) (.cells #[.int .i64 0,.int .i64 0,S []] 26) (by simp)).trans (aN w (.cells #[.int .i64 k,.int .i64 n,S s,.int .i64 k',.int .i64 n',S s'] 162)));have HR0:=aB (aV (w.alloc (.cells #[.int .i64 k,.int .i64 n,S s,.int .i64 k',.int .i64 n',S s'] 162)) (.cells #[.int .i64 0,.int .i64 0,S []] 26) (k:=w.heap.size+1) (by simp));have HB0:=aB (((Bl.refl w).alloc (.cells #[.int .i64 k,.int .i64 n,S s,.int .i64 k',.int .i64 n',S s'] 162)).alloc (.cells #[.int .i64 0,.int .i64 0,S []] 26));go_enter Tryz.func158,Tryz.ntmps158;go_wp2_with fail;refine(HS.o _).mono ?_;rintro e w1 ⟨rfl,hb1⟩;have HR1:=aB ((hb1.block _ (aC.1 HR0.o).1).trans HR0.o);have HB1:=aB (HB0.o.call hb1);clear hb1;go_wp2_with (refine bA rfl rfl rfl rfl (cells3 (2,-n,[])) HR1.o rfl rfl vlInfo rfl ?_)
  intro w9 hB9 hX9;go_wp2;refine bodyPost_ret (v:=VlV (2,-n,[])) (results_cell_row (p:=2) (ty:=26) rfl _ _ (w.heap.size+1) 26 _ (0,0) _ rfl hX9 Tryz.underlying26 rfl vlInfo) rfl ⟨rfl,?_⟩;exact hB9.bl HB1.o (by omega)
theorem spabs_any(k n:Int)(s:List UInt8)(k' n':Int)(s':List UInt8)(ha0: -9223372036854775808<=n)(ha1:n<=9223372036854775807)(w:World):
  Calls Tryz.prog 159 #[PV k n s k' n' s'] w fun e w'=>e=(if 0<=n then .returned (V k n s) else resV (numV (-n)))/\Bl w w':=by
 by_cases h0:0<=n
 ·rw[if_pos h0];go_enter Tryz.func159,Tryz.ntmps159;go_wp2;exact bodyPost_ret (v:=V k n s) (by simp[results,Tryz.results159,go_sem]) rfl ⟨rfl,((Bl.refl _).alloc _).alloc _⟩
 ·rw[if_neg h0];have HS:=aB (fun w=>spneg_any k n s k' n' s' ha0 ha1 w);have h1:n<0:=(by omega);cases hf:fits64 (-n)
  ·rw[numV_off hf] at HS⊢;clear hf;have HX0:=aB ((aW (w.alloc (.cells #[.int .i64 k,.int .i64 n,S s,.int .i64 k',.int .i64 n',S s'] 162)) (.cells #[.int .i64 0,.int .i64 0,S []] 26) (by simp)).trans (aN w (.cells #[.int .i64 k,.int .i64 n,S s,.int .i64 k',.int .i64 n',S s'] 162)));have HR0:=aB (aV (w.alloc (.cells #[.int .i64 k,.int .i64 n,S s,.int .i64 k',.int .i64 n',S s'] 162)) (.cells #[.int .i64 0,.int .i64 0,S []] 26) (k:=w.heap.size+1) (by simp));have HB0:=aB (((Bl.refl w).alloc (.cells #[.int .i64 k,.int .i64 n,S s,.int .i64 k',.int .i64 n',S s'] 162)).alloc (.cells #[.int .i64 0,.int .i64 0,S []] 26));go_enter Tryz.func159,Tryz.ntmps159;go_wp2_with fail;refine(HS.o _).mono ?_;rintro e w1 ⟨rfl,hb1⟩;go_wp2;exact⟨rfl,rfl,HB0.o.call hb1⟩
  ·rw[numV_fit hf] at HS⊢;clear hf;have HX0:=aB ((aW (w.alloc (.cells #[.int .i64 k,.int .i64 n,S s,.int .i64 k',.int .i64 n',S s'] 162)) (.cells #[.int .i64 0,.int .i64 0,S []] 26) (by simp)).trans (aN w (.cells #[.int .i64 k,.int .i64 n,S s,.int .i64 k',.int .i64 n',S s'] 162)));have HR0:=aB (aV (w.alloc (.cells #[.int .i64 k,.int .i64 n,S s,.int .i64 k',.int .i64 n',S s'] 162)) (.cells #[.int .i64 0,.int .i64 0,S []] 26) (k:=w.heap.size+1) (by simp));have HB0:=aB (((Bl.refl w).alloc (.cells #[.int .i64 k,.int .i64 n,S s,.int .i64 k',.int .i64 n',S s'] 162)).alloc (.cells #[.int .i64 0,.int .i64 0,S []] 26));go_enter Tryz.func159,Tryz.ntmps159;go_wp2_with fail;refine(HS.o _).mono ?_;rintro e w1 ⟨rfl,hb1⟩;have HR1:=aB ((hb1.block _ (aC.1 HR0.o).1).trans HR0.o);have HB1:=aB (HB0.o.call hb1);clear hb1;go_wp2_with (refine bA rfl rfl rfl rfl (cells3 (2,-n,[])) HR1.o rfl rfl vlInfo rfl ?_)
   intro w9 hB9 hX9;go_wp2;refine bodyPost_ret (v:=VlV (2,-n,[])) (results_cell_row (p:=2) (ty:=26) rfl _ _ (w.heap.size+1) 26 _ (0,0) _ rfl hX9 Tryz.underlying26 rfl vlInfo) rfl ⟨rfl,?_⟩;exact hB9.bl HB1.o (by omega)
theorem spcat_any(k n:Int)(s:List UInt8)(k' n':Int)(s':List UInt8)(hs:s.length<=1000)(hs':s'.length<=1000)(w:World):
  Calls Tryz.prog 160 #[PV k n s k' n' s'] w fun e w'=>e=(if 1000<s.length+s'.length then panE 3 else .returned (V k 0 (s++s')))/\Bl w w':=by
 by_cases h:1000<s.length+s'.length
 ·rw[if_pos h];have h1:¬((s.length:Int)+(s'.length:Int)<=1000):=(by omega);have HX0:=aB ((aW (w.alloc (.cells #[.int .i64 k,.int .i64 n,S s,.int .i64 k',.int .i64 n',S s'] 162)) (.cells #[.int .i64 0,.int .i64 0,S []] 26) (by simp)).trans (aN w (.cells #[.int .i64 k,.int .i64 n,S s,.int .i64 k',.int .i64 n',S s'] 162)));have HR0:=aB (aV (w.alloc (.cells #[.int .i64 k,.int .i64 n,S s,.int .i64 k',.int .i64 n',S s'] 162)) (.cells #[.int .i64 0,.int .i64 0,S []] 26) (k:=w.heap.size+1) (by simp));have HB0:=aB (((Bl.refl w).alloc (.cells #[.int .i64 k,.int .i64 n,S s,.int .i64 k',.int .i64 n',S s'] 162)).alloc (.cells #[.int .i64 0,.int .i64 0,S []] 26));go_enter Tryz.func160,Tryz.ntmps160;go_wp2_with fail
  (with_reducible refine(smust_no _ _).mono ?_)
  rintro e w1 ⟨rfl,rfl⟩;go_wp2;exact⟨rfl,rfl,HB0.o⟩
 ·rw[if_neg h];have h1:(s.length:Int)+(s'.length:Int)<=1000:=(by omega);have HJ:Hid (∀w:World,Calls Tryz.prog 179 #[.slice (some ⟨w.heap.size,0,none⟩) 2 2,.string {data:= #[]}] (w.alloc (.cells #[S s,S s'] 9)) fun e w'=>e= .returned (S (s++s'))/\Bl (w.alloc (.cells #[S s,S s'] 9)) w'):=fun w=>by
   have hj:=b0j (wO w [s,s'] #[S s,S s'] 9 rfl 2 w.heap.size rfl rfl) [] (by simp) (by simp[jR];omega);have e:jR [] [s,s']=s++s':=(by simp[jR]);rw[e] at hj;exact hj
  have HX0:=aB ((aW (w.alloc (.cells #[.int .i64 k,.int .i64 n,S s,.int .i64 k',.int .i64 n',S s'] 162)) (.cells #[.int .i64 0,.int .i64 0,S []] 26) (by simp)).trans (aN w (.cells #[.int .i64 k,.int .i64 n,S s,.int .i64 k',.int .i64 n',S s'] 162)));have HR0:=aB (aV (w.alloc (.cells #[.int .i64 k,.int .i64 n,S s,.int .i64 k',.int .i64 n',S s'] 162)) (.cells #[.int .i64 0,.int .i64 0,S []] 26) (k:=w.heap.size+1) (by simp));have HB0:=aB (((Bl.refl w).alloc (.cells #[.int .i64 k,.int .i64 n,S s,.int .i64 k',.int .i64 n',S s'] 162)).alloc (.cells #[.int .i64 0,.int .i64 0,S []] 26));clear h;go_enter Tryz.func160,Tryz.ntmps160;go_wp2_with fail
  (with_reducible refine(smust_yes _ _).mono ?_)
  rintro e w1 ⟨rfl,rfl⟩;go_wp2_with fail;refine wp_region_noPanic (bM (fun B=>B.heap[w.heap.size]?=some (.cells #[.int .i64 k,.int .i64 n,S s,.int .i64 k',.int .i64 n',S s'] 162 (0,0))) ((.take 0 (.take 1 (.take 2 (.take 3 (.take 4 (.take 5 (.take 6 (.take 7 (.take 8 (.one 9 (.one 10 (.take 11 (.one 12 .done)))))))))))))) (by kernel_rfl) (by kernel_rfl) (by kernel_rfl) (fun _ _ _ _ _ h=>h) (HX0.o) ?_);intro wd HWD hY;iterate 9 (refine aI rfl (by rfl) (by intro w hSw;(try dsimp only at hSw);obtain⟨e0,e1,e2,e3,e4,e5⟩:=six6 hSw;go_simp;(try(first |with_reducible rfl|rfl))) ?_;(try simp only[aK,aA,aD,aF]))
  refine aL rfl (fun K hK=>?_);go_simp;refine hK.o _ _ ((keep_b hY ((Bl.refl _).alloc _))) ?_;clear hY hK K;intro hY;refine aL rfl (fun K hK=>?_);go_simp;(refine(HJ.o wd).mono ?_;rintro e w3 ⟨rfl,hb3⟩);go_wp2_with fail;refine hK.o _ _ ((by first |exact keep_b hY hb3|exact(hB9.same _ (by omega)).trans hY)) ?_;clear hY hK K;intro hY;refine aI rfl (by rfl) (by intro w hSw;(try dsimp only at hSw);obtain⟨e0,e1,e2,e3,e4,e5⟩:=six6 hSw;go_simp;(try(first |with_reducible rfl|rfl))) ?_;(try simp only[aK,aA,aD,aF])
  refine aL rfl (fun K hK=>?_);rw[if_pos (by rfl)];refine bC rfl rfl rfl (cells3 (k,0,s++s')) (keep_b HR0.o ((HWD.o.alloc _).call hb3)) rfl rfl vlInfo rfl ?_;intro w9 hB9 hX9;refine hK.o _ _ ((by first |exact keep_b hY hB93|exact(hB9.same _ (by omega)).trans hY)) ?_;clear hY hK K;intro hY;(try simp only[aK])
  refine fO (bF ?_);go_wp2;exact bodyPost_ret (v:=VlV (k,0,s++s')) (results_cell_row (p:=2) (ty:=26) rfl _ _ (w.heap.size+1) 26 _ (0,0) _ rfl hX9 Tryz.underlying26 rfl vlInfo) rfl ⟨rfl,hB9.bl (HB0.o.call ((HWD.o.alloc _).call hb3)) (by omega)⟩
theorem spmod_any(k n:Int)(s:List UInt8)(k' n':Int)(s':List UInt8)(ha0: -9223372036854775808<=n)(ha1:n<=9223372036854775807)(w:World):
  Calls Tryz.prog 157 #[PV k n s k' n' s'] w fun e w'=>e=(if n'=0 then panE 121 else resV (numV (n.tmod n')))/\Bl w w':=by
 by_cases h:n'=0
 ·rw[if_pos h];have g0:(n' != 0)=false:=(by simp[h]);clear h;have HX0:=aB ((aW (w.alloc (.cells #[.int .i64 k,.int .i64 n,S s,.int .i64 k',.int .i64 n',S s'] 162)) (.cells #[.int .i64 0,.int .i64 0,S []] 26) (by simp)).trans (aN w (.cells #[.int .i64 k,.int .i64 n,S s,.int .i64 k',.int .i64 n',S s'] 162)));have HR0:=aB (aV (w.alloc (.cells #[.int .i64 k,.int .i64 n,S s,.int .i64 k',.int .i64 n',S s'] 162)) (.cells #[.int .i64 0,.int .i64 0,S []] 26) (k:=w.heap.size+1) (by simp));have HB0:=aB (((Bl.refl w).alloc (.cells #[.int .i64 k,.int .i64 n,S s,.int .i64 k',.int .i64 n',S s'] 162)).alloc (.cells #[.int .i64 0,.int .i64 0,S []] 26));go_enter Tryz.func157,Tryz.ntmps157;go_wp2_with fail
  (with_reducible refine(smust_no _ _).mono ?_)
  rintro e w1 ⟨rfl,rfl⟩;go_wp2;exact⟨rfl,rfl,HB0.o⟩
 ·rw[if_neg h,numV_fit (mod_fits ⟨ha0,ha1⟩)];have h1:(n' != 0)=true:=(by simpa using h);have hw:=wrap_fit (mod_fits (b:=n') ⟨ha0,ha1⟩);have HX0:=aB ((aW (w.alloc (.cells #[.int .i64 k,.int .i64 n,S s,.int .i64 k',.int .i64 n',S s'] 162)) (.cells #[.int .i64 0,.int .i64 0,S []] 26) (by simp)).trans (aN w (.cells #[.int .i64 k,.int .i64 n,S s,.int .i64 k',.int .i64 n',S s'] 162)));have HR0:=aB (aV (w.alloc (.cells #[.int .i64 k,.int .i64 n,S s,.int .i64 k',.int .i64 n',S s'] 162)) (.cells #[.int .i64 0,.int .i64 0,S []] 26) (k:=w.heap.size+1) (by simp));have HB0:=aB (((Bl.refl w).alloc (.cells #[.int .i64 k,.int .i64 n,S s,.int .i64 k',.int .i64 n',S s'] 162)).alloc (.cells #[.int .i64 0,.int .i64 0,S []] 26));go_enter Tryz.func157,Tryz.ntmps157;go_wp2_with fail
  (with_reducible refine(smust_yes _ _).mono ?_)
  rintro e w1 ⟨rfl,rfl⟩;go_wp2_with fail
  (with_reducible refine(snumber_yes _ _).mono ?_)
  rintro e w1 ⟨rfl,hb1⟩;have HR1:=aB ((hb1.block _ (aC.1 HR0.o).1).trans HR0.o);have HB1:=aB (HB0.o.call hb1);clear hb1;go_wp2_with (refine bA rfl rfl rfl rfl (cells3 (2,n.tmod n',[])) HR1.o rfl rfl vlInfo rfl ?_)
  intro w9 hB9 hX9;go_wp2;refine bodyPost_ret (v:=VlV (2,n.tmod n',[])) (results_cell_row (p:=2) (ty:=26) rfl _ _ (w.heap.size+1) 26 _ (0,0) _ rfl hX9 Tryz.underlying26 rfl vlInfo) rfl ⟨rfl,?_⟩;exact hB9.bl HB1.o (by omega)
theorem spdiv_any(k n:Int)(s:List UInt8)(k' n':Int)(s':List UInt8)(ha0: -9223372036854775808<=n)(ha1:n<=9223372036854775807)(w:World):
  Calls Tryz.prog 156 #[PV k n s k' n' s'] w fun e w'=>e=(if n'=0 then panE 121 else resV (numV (n.tdiv n')))/\Bl w w':=by
 by_cases h:n'=0
 ·rw[if_pos h];have g0:(n' != 0)=false:=(by simp[h]);clear h;have HX0:=aB ((aW (w.alloc (.cells #[.int .i64 k,.int .i64 n,S s,.int .i64 k',.int .i64 n',S s'] 162)) (.cells #[.int .i64 0,.int .i64 0,S []] 26) (by simp)).trans (aN w (.cells #[.int .i64 k,.int .i64 n,S s,.int .i64 k',.int .i64 n',S s'] 162)));have HR0:=aB (aV (w.alloc (.cells #[.int .i64 k,.int .i64 n,S s,.int .i64 k',.int .i64 n',S s'] 162)) (.cells #[.int .i64 0,.int .i64 0,S []] 26) (k:=w.heap.size+1) (by simp));have HB0:=aB (((Bl.refl w).alloc (.cells #[.int .i64 k,.int .i64 n,S s,.int .i64 k',.int .i64 n',S s'] 162)).alloc (.cells #[.int .i64 0,.int .i64 0,S []] 26));go_enter Tryz.func156,Tryz.ntmps156;go_wp2_with fail
  (with_reducible refine(smust_no _ _).mono ?_)
  rintro e w1 ⟨rfl,rfl⟩;go_wp2;exact⟨rfl,rfl,HB0.o⟩
 have h1:(n' != 0)=true:=(by simpa using h);rw[if_neg h];have HX0:=aB ((aW (w.alloc (.cells #[.int .i64 k,.int .i64 n,S s,.int .i64 k',.int .i64 n',S s'] 162)) (.cells #[.int .i64 0,.int .i64 0,S []] 26) (by simp)).trans (aN w (.cells #[.int .i64 k,.int .i64 n,S s,.int .i64 k',.int .i64 n',S s'] 162)));have HR0:=aB (aV (w.alloc (.cells #[.int .i64 k,.int .i64 n,S s,.int .i64 k',.int .i64 n',S s'] 162)) (.cells #[.int .i64 0,.int .i64 0,S []] 26) (k:=w.heap.size+1) (by simp));have HB0:=aB (((Bl.refl w).alloc (.cells #[.int .i64 k,.int .i64 n,S s,.int .i64 k',.int .i64 n',S s'] 162)).alloc (.cells #[.int .i64 0,.int .i64 0,S []] 26));by_cases hm:n= -9223372036854775808
 ·by_cases hm1:n'= -1
  ·have hf:fits64 (n.tdiv n')=false:=by rw[div_fits ⟨ha0,ha1⟩ h,hm,hm1];decide
   rw[numV_off hf];clear hf;subst hm;subst hm1;go_enter Tryz.func156,Tryz.ntmps156;go_wp2_with fail
   (with_reducible refine(smust_yes _ _).mono ?_)
   rintro e w1 ⟨rfl,rfl⟩;go_wp2_with fail;obtain⟨w0,hw0⟩:∃w0,(w.alloc (.cells #[.int .i64 k,.int .i64 (-9223372036854775808),S s,.int .i64 k',.int .i64 (-1),S s'] 162)).alloc (.cells #[.int .i64 0,.int .i64 0,S []] 26)=w0:=⟨_,rfl⟩
   rw[hw0] at HX0 HR0 HB0⊢;clear hw0;obtain⟨e0,e1,e2,e3,e4,e5⟩:=six6 HX0.o
   go_still_tail 17,(by kernel_rfl)
   have HBd:=aB HB0.o.drew;have HRd:=aB (show w0.drew.heap[w.heap.size+1]?=some (.cells #[.int .i64 0,.int .i64 0,S []] 26 (0,0)) from HR0.o);clear HB0 HR0;have HB0:=HBd;have HR0:=HRd;clear HBd HRd;go_wp2_with fail
   (with_reducible refine(snumber_no _ _).mono ?_)
   rintro e w1 ⟨rfl,hb1⟩;go_wp2;exact⟨rfl,rfl,HB0.o.call hb1⟩
  ·have hf:fits64 (n.tdiv n')=true:=by rw[div_fits ⟨ha0,ha1⟩ h,decide_eq_false hm1,Bool.and_false];rfl
   have h2:(n' != -1)=true:=(by simpa using hm1);have hw:=wrap_fit hf;rw[numV_fit hf];have g0:(n != -9223372036854775808)=false:=(by simp[hm]);clear hf hm hm1;go_enter Tryz.func156,Tryz.ntmps156;go_wp2_with fail
   (with_reducible refine(smust_yes _ _).mono ?_)
   rintro e w1 ⟨rfl,rfl⟩;go_wp2_with fail;obtain⟨w0,hw0⟩:∃w0,(w.alloc (.cells #[.int .i64 k,.int .i64 (n),S s,.int .i64 k',.int .i64 (n'),S s'] 162)).alloc (.cells #[.int .i64 0,.int .i64 0,S []] 26)=w0:=⟨_,rfl⟩
   rw[hw0] at HX0 HR0 HB0⊢;clear hw0;obtain⟨e0,e1,e2,e3,e4,e5⟩:=six6 HX0.o
   go_still_tail 17,(by kernel_rfl)
   have HBd:=aB HB0.o.drew;have HRd:=aB (show w0.drew.heap[w.heap.size+1]?=some (.cells #[.int .i64 0,.int .i64 0,S []] 26 (0,0)) from HR0.o);clear HB0 HR0;have HB0:=HBd;have HR0:=HRd;clear HBd HRd;go_wp2_with fail
   (with_reducible refine(snumber_yes _ _).mono ?_)
   rintro e w1 ⟨rfl,hb1⟩;have HR1:=aB ((hb1.block _ (aC.1 HR0.o).1).trans HR0.o);have HB1:=aB (HB0.o.call hb1);clear hb1;go_wp2_with (refine bA rfl rfl rfl rfl (cells3 (2,n.tdiv n',[])) HR1.o rfl rfl vlInfo rfl ?_)
   intro w9 hB9 hX9;go_wp2;refine bodyPost_ret (v:=VlV (2,n.tdiv n',[])) (results_cell_row (p:=2) (ty:=26) rfl _ _ (w.heap.size+1) 26 _ (0,0) _ rfl hX9 Tryz.underlying26 rfl vlInfo) rfl ⟨rfl,?_⟩;exact hB9.bl HB1.o (by omega)
 ·have hf:fits64 (n.tdiv n')=true:=by rw[div_fits ⟨ha0,ha1⟩ h,decide_eq_false hm,pK];rfl
  have h2:(n != -9223372036854775808)=true:=(by simpa using hm);have hw:=wrap_fit hf;rw[numV_fit hf];clear hf;go_enter Tryz.func156,Tryz.ntmps156;go_wp2_with fail
  (with_reducible refine(smust_yes _ _).mono ?_)
  rintro e w1 ⟨rfl,rfl⟩;go_wp2_with fail;obtain⟨w0,hw0⟩:∃w0,(w.alloc (.cells #[.int .i64 k,.int .i64 (n),S s,.int .i64 k',.int .i64 (n'),S s'] 162)).alloc (.cells #[.int .i64 0,.int .i64 0,S []] 26)=w0:=⟨_,rfl⟩
  rw[hw0] at HX0 HR0 HB0⊢;clear hw0;obtain⟨e0,e1,e2,e3,e4,e5⟩:=six6 HX0.o
  go_still_tail 17,(by kernel_rfl)
  have HBd:=aB HB0.o.drew;have HRd:=aB (show w0.drew.heap[w.heap.size+1]?=some (.cells #[.int .i64 0,.int .i64 0,S []] 26 (0,0)) from HR0.o);clear HB0 HR0;have HB0:=HBd;have HR0:=HRd;clear HBd HRd;go_wp2_with fail
  (with_reducible refine(snumber_yes _ _).mono ?_)
  rintro e w1 ⟨rfl,hb1⟩;have HR1:=aB ((hb1.block _ (aC.1 HR0.o).1).trans HR0.o);have HB1:=aB (HB0.o.call hb1);clear hb1;go_wp2_with (refine bA rfl rfl rfl rfl (cells3 (2,n.tdiv n',[])) HR1.o rfl rfl vlInfo rfl ?_)
  intro w9 hB9 hX9;go_wp2;refine bodyPost_ret (v:=VlV (2,n.tdiv n',[])) (results_cell_row (p:=2) (ty:=26) rfl _ _ (w.heap.size+1) 26 _ (0,0) _ rfl hX9 Tryz.underlying26 rfl vlInfo) rfl ⟨rfl,?_⟩;exact hB9.bl HB1.o (by omega)
theorem spmul1_any(n:Int)(ha0: -9223372036854775808<=n)(ha1:n<=9223372036854775807)(w:World):Calls Tryz.prog 177 #[.int .i64 n] w fun e w'=>e= .returned (.int .u64 (n.natAbs:Int))/\w=w':=by
 by_cases h:n<0
 ·have e:((n.natAbs:Nat):Int)= -n:=by omega
  have hw1:IntKind.u64.wrap n=n+18446744073709551616:=(by simp[IntKind.wrap,IntKind.bits,IntKind.signed];omega);have hw2:IntKind.u64.wrap (-(n+18446744073709551616))= -n:=(by simp[IntKind.wrap,IntKind.bits,IntKind.signed];omega);rw[e];clear e;go_enter Tryz.func177,Tryz.ntmps177;go_wp2;go_ret;exact⟨rfl,rfl⟩
 ·have e:((n.natAbs:Nat):Int)=n:=by omega
  have hw1:IntKind.u64.wrap n=n:=(by simp[IntKind.wrap,IntKind.bits,IntKind.signed];omega);rw[e];clear e;go_enter Tryz.func177,Tryz.ntmps177;go_wp2;go_ret;exact⟨rfl,rfl⟩
theorem enters_spmul1(args:Array Value)(w:World):(callFunc 177 args).run Tryz.prog w= .ok (.enter 177 args) w:=by simp[go_sem]
end
section
theorem of_kVl(t:Int):V (ofK t) (ofN t) []=VlV (kVl t):=by
 unfold ofK ofN kVl;by_cases h0:t=0
 ·subst h0;rfl
 ·by_cases h1:t=1
  ·subst h1;rfl
  ·rw[if_neg (by omega),if_neg (by omega),if_neg h0,if_neg h1]
theorem Of_kVl(t:Int)(h0: -9223372036854775808<=t)(h1:t<=9223372036854775807)(w:World):Calls Tryz.prog 148 #[.int .i64 t] w fun e w'=>e= .returned (VlV (kVl t))/\Bl w w':=by
 have h:=c2m t h0 h1 w;rw[of_kVl] at h;exact h
theorem kVl_truth(b:Bool):kVl (if b then 1 else 0)=tVl b:=by cases b<;>rfl
theorem struth_any(b:Bool)(w:World):Calls Tryz.prog 123 #[.bool b] w fun e w'=>e= .returned (VlV (tVl b))/\Bl w w':=by
 have HR0:=aB (aN w (.cells #[.int .i64 0,.int .i64 0,S []] 26));have HB0:=aB ((Bl.refl w).alloc (.cells #[.int .i64 0,.int .i64 0,S []] 26));cases b
 ·have HO:=aB (fun w=>Of_kVl 0 (by decide) (by decide) w);rw[show kVl 0=tVl false from rfl] at HO;go_enter Tryz.func123,Tryz.ntmps123;go_wp2_with fail;refine(HO.o _).mono ?_;rintro e w1 ⟨rfl,hb1⟩;have HR1:=aB ((hb1.block _ (aC.1 HR0.o).1).trans HR0.o);have HB1:=aB (HB0.o.call hb1);clear hb1;go_wp2_with (refine bA rfl rfl rfl rfl (cells3 (tVl false)) HR1.o rfl rfl vlInfo rfl ?_)
  intro w9 hB9 hX9;go_wp2;refine bodyPost_ret (v:=VlV (tVl false)) (results_cell_row (p:=2) (ty:=26) rfl _ _ w.heap.size 26 _ (0,0) _ rfl hX9 Tryz.underlying26 rfl vlInfo) rfl ⟨rfl,?_⟩;exact hB9.bl HB1.o (by omega)
 ·have HO:=aB (fun w=>Of_kVl 1 (by decide) (by decide) w);rw[show kVl 1=tVl true from rfl] at HO;go_enter Tryz.func123,Tryz.ntmps123;go_wp2_with fail;refine(HO.o _).mono ?_;rintro e w1 ⟨rfl,hb1⟩;have HR1:=aB ((hb1.block _ (aC.1 HR0.o).1).trans HR0.o);have HB1:=aB (HB0.o.call hb1);clear hb1;go_wp2_with (refine bA rfl rfl rfl rfl (cells3 (tVl true)) HR1.o rfl rfl vlInfo rfl ?_)
  intro w9 hB9 hX9;go_wp2;refine bodyPost_ret (v:=VlV (tVl true)) (results_cell_row (p:=2) (ty:=26) rfl _ _ w.heap.size 26 _ (0,0) _ rfl hX9 Tryz.underlying26 rfl vlInfo) rfl ⟨rfl,?_⟩;exact hB9.bl HB1.o (by omega)
abbrev SV(k n:Int)(s:List UInt8)(k' n':Int)(s':List UInt8)(o:Int):Value:= .agg #[.int .i64 k,.int .i64 n,S s,.int .i64 k',.int .i64 n',S s',.int .i64 o]
theorem seven7{W:World}{b:Nat}{x0 x1 x2 x3 x4 x5 x6:Value}{t:TypeId}(h:W.heap[b]?=some (.cells #[x0,x1,x2,x3,x4,x5,x6] t (0,0))):
  W.cell? ⟨b,0,none⟩=some x0/\W.cell? ⟨b,1,none⟩=some x1/\W.cell? ⟨b,2,none⟩=some x2/\W.cell? ⟨b,3,none⟩=some x3/\W.cell? ⟨b,4,none⟩=some x4/\W.cell? ⟨b,5,none⟩=some x5/\W.cell? ⟨b,6,none⟩=some x6:=
 ⟨by rw[aG h];rfl,by rw[aG h];rfl,by rw[aG h];rfl,by rw[aG h];rfl,by rw[aG h];rfl,by rw[aG h];rfl,by rw[aG h];rfl⟩
theorem spordered_any(k n:Int)(s:List UInt8)(k' n':Int)(s':List UInt8)(o:Int)(ho:7<=o/\o<=12)(w:World):
  Calls Tryz.prog 126 #[SV k n s k' n' s' o] w fun e w'=>e= .returned (VlV (tVl (truthO o (ordVl (k,n,s) (k',n',s')))))/\Bl w w':=by
 have HO:Hid (∀w,Calls Tryz.prog 104 #[V k n s,V k' n' s'] w fun e w'=>e= .returned (.int .i64 (ordVl (k,n,s) (k',n',s')))/\Bl w w'):=fun w=>Order_any k n s k' n' s' w;generalize ordVl (k,n,s) (k',n',s')=c at *;have HR0:=aB (aV (w.alloc (.cells #[.int .i64 k,.int .i64 n,S s,.int .i64 k',.int .i64 n',S s',.int .i64 o] 164)) (.cells #[.int .i64 0,.int .i64 0,S []] 26) (k:=w.heap.size+1) (by simp));have HX0:=aB ((aW (w.alloc (.cells #[.int .i64 k,.int .i64 n,S s,.int .i64 k',.int .i64 n',S s',.int .i64 o] 164)) (.cells #[.int .i64 0,.int .i64 0,S []] 26) (by simp)).trans (aN w (.cells #[.int .i64 k,.int .i64 n,S s,.int .i64 k',.int .i64 n',S s',.int .i64 o] 164)));have HB0:=aB (((Bl.refl w).alloc (.cells #[.int .i64 k,.int .i64 n,S s,.int .i64 k',.int .i64 n',S s',.int .i64 o] 164)).alloc (.cells #[.int .i64 0,.int .i64 0,S []] 26));have h6:o=7\/o=8\/o=9\/o=10\/o=11\/o=12:=(by omega);rcases h6 with rfl|rfl|rfl|rfl|rfl|rfl
 ·have HE:Hid (truthO 7 c=decide (c=0)):=by show _=_;unfold truthO;rw[if_pos rfl];by_cases h:c=0<;>simp[h]
  rw[HE.o];have hidx:∀(b0 b1 b2 b3 b4 b5:Bool) (w:World),Sem.run Tryz.prog (Instr.index 200 (.agg #[.bool b0,.bool b1,.bool b2,.bool b3,.bool b4,.bool b5]) (.int .i64 0)) w= .ok (.bool b0) w:=fun _ _ _ _ _ _ _=>rfl;go_enter Tryz.func126,Tryz.ntmps126;go_wp2_with fail;refine(HO.o _).mono ?_;rintro e w1 ⟨rfl,hb1⟩;have hX1:=(hb1.block _ (aC.1 HX0.o).1).trans HX0.o;obtain⟨-,-,-,-,-,-,c6⟩:=seven7 hX1;have HR2:=aB ((hb1.block _ (aC.1 HR0.o).1).trans HR0.o);have HB2:=aB (HB0.o.call hb1);clear hb1 hX1 HR0 HB0;have HR0:=HR2;have HB0:=HB2;clear HR2 HB2;go_wp2_with fail;refine(struth_any _ _).mono ?_;rintro e w3 ⟨rfl,hb1⟩;have HR1:=aB ((hb1.block _ (aC.1 HR0.o).1).trans HR0.o);have HB1:=aB (HB0.o.call hb1);clear hb1;go_wp2_with (refine bA rfl rfl rfl rfl (cells3 (tVl (decide (c=0)))) HR1.o rfl rfl vlInfo rfl ?_)
  intro w9 hB9 hX9;go_wp2;refine bodyPost_ret (v:=VlV (tVl (decide (c=0)))) (results_cell_row (p:=2) (ty:=26) rfl _ _ (w.heap.size+1) 26 _ (0,0) _ rfl hX9 Tryz.underlying26 rfl vlInfo) rfl ⟨rfl,?_⟩;exact hB9.bl HB1.o (by omega)
 ·have HE:Hid (truthO 8 c= !decide (c=0)):=by show _=_;unfold truthO;rw[if_neg (by decide),if_pos rfl];by_cases h:c=0<;>simp[h]
  rw[HE.o];have hidx:∀(b0 b1 b2 b3 b4 b5:Bool) (w:World),Sem.run Tryz.prog (Instr.index 200 (.agg #[.bool b0,.bool b1,.bool b2,.bool b3,.bool b4,.bool b5]) (.int .i64 1)) w= .ok (.bool b1) w:=fun _ _ _ _ _ _ _=>rfl;go_enter Tryz.func126,Tryz.ntmps126;go_wp2_with fail;refine(HO.o _).mono ?_;rintro e w1 ⟨rfl,hb1⟩;have hX1:=(hb1.block _ (aC.1 HX0.o).1).trans HX0.o;obtain⟨-,-,-,-,-,-,c6⟩:=seven7 hX1;have HR2:=aB ((hb1.block _ (aC.1 HR0.o).1).trans HR0.o);have HB2:=aB (HB0.o.call hb1);clear hb1 hX1 HR0 HB0;have HR0:=HR2;have HB0:=HB2;clear HR2 HB2;go_wp2_with fail;refine(struth_any _ _).mono ?_;rintro e w3 ⟨rfl,hb1⟩;have HR1:=aB ((hb1.block _ (aC.1 HR0.o).1).trans HR0.o);have HB1:=aB (HB0.o.call hb1);clear hb1;go_wp2_with (refine bA rfl rfl rfl rfl (cells3 (tVl (!decide (c=0)))) HR1.o rfl rfl vlInfo rfl ?_)
  intro w9 hB9 hX9;go_wp2;refine bodyPost_ret (v:=VlV (tVl (!decide (c=0)))) (results_cell_row (p:=2) (ty:=26) rfl _ _ (w.heap.size+1) 26 _ (0,0) _ rfl hX9 Tryz.underlying26 rfl vlInfo) rfl ⟨rfl,?_⟩;exact hB9.bl HB1.o (by omega)
 ·have HE:Hid (truthO 9 c=decide (c<0)):=rfl;rw[HE.o];have hidx:∀(b0 b1 b2 b3 b4 b5:Bool) (w:World),Sem.run Tryz.prog (Instr.index 200 (.agg #[.bool b0,.bool b1,.bool b2,.bool b3,.bool b4,.bool b5]) (.int .i64 2)) w= .ok (.bool b2) w:=fun _ _ _ _ _ _ _=>rfl;go_enter Tryz.func126,Tryz.ntmps126;go_wp2_with fail;refine(HO.o _).mono ?_;rintro e w1 ⟨rfl,hb1⟩;have hX1:=(hb1.block _ (aC.1 HX0.o).1).trans HX0.o;obtain⟨-,-,-,-,-,-,c6⟩:=seven7 hX1;have HR2:=aB ((hb1.block _ (aC.1 HR0.o).1).trans HR0.o);have HB2:=aB (HB0.o.call hb1);clear hb1 hX1 HR0 HB0;have HR0:=HR2;have HB0:=HB2;clear HR2 HB2;go_wp2_with fail;refine(struth_any _ _).mono ?_;rintro e w3 ⟨rfl,hb1⟩;have HR1:=aB ((hb1.block _ (aC.1 HR0.o).1).trans HR0.o);have HB1:=aB (HB0.o.call hb1);clear hb1;go_wp2_with (refine bA rfl rfl rfl rfl (cells3 (tVl (decide (c<0)))) HR1.o rfl rfl vlInfo rfl ?_)
  intro w9 hB9 hX9;go_wp2;refine bodyPost_ret (v:=VlV (tVl (decide (c<0)))) (results_cell_row (p:=2) (ty:=26) rfl _ _ (w.heap.size+1) 26 _ (0,0) _ rfl hX9 Tryz.underlying26 rfl vlInfo) rfl ⟨rfl,?_⟩;exact hB9.bl HB1.o (by omega)
 ·have HE:Hid (truthO 10 c=decide (c<=0)):=rfl;rw[HE.o];have hidx:∀(b0 b1 b2 b3 b4 b5:Bool) (w:World),Sem.run Tryz.prog (Instr.index 200 (.agg #[.bool b0,.bool b1,.bool b2,.bool b3,.bool b4,.bool b5]) (.int .i64 3)) w= .ok (.bool b3) w:=fun _ _ _ _ _ _ _=>rfl;go_enter Tryz.func126,Tryz.ntmps126;go_wp2_with fail;refine(HO.o _).mono ?_;rintro e w1 ⟨rfl,hb1⟩;have hX1:=(hb1.block _ (aC.1 HX0.o).1).trans HX0.o;obtain⟨-,-,-,-,-,-,c6⟩:=seven7 hX1;have HR2:=aB ((hb1.block _ (aC.1 HR0.o).1).trans HR0.o);have HB2:=aB (HB0.o.call hb1);clear hb1 hX1 HR0 HB0;have HR0:=HR2;have HB0:=HB2;clear HR2 HB2;go_wp2_with fail;refine(struth_any _ _).mono ?_;rintro e w3 ⟨rfl,hb1⟩;have HR1:=aB ((hb1.block _ (aC.1 HR0.o).1).trans HR0.o);have HB1:=aB (HB0.o.call hb1);clear hb1;go_wp2_with (refine bA rfl rfl rfl rfl (cells3 (tVl (decide (c<=0)))) HR1.o rfl rfl vlInfo rfl ?_)
  intro w9 hB9 hX9;go_wp2;refine bodyPost_ret (v:=VlV (tVl (decide (c<=0)))) (results_cell_row (p:=2) (ty:=26) rfl _ _ (w.heap.size+1) 26 _ (0,0) _ rfl hX9 Tryz.underlying26 rfl vlInfo) rfl ⟨rfl,?_⟩;exact hB9.bl HB1.o (by omega)
 ·have HE:Hid (truthO 11 c=decide (0<c)):=rfl;rw[HE.o];have hidx:∀(b0 b1 b2 b3 b4 b5:Bool) (w:World),Sem.run Tryz.prog (Instr.index 200 (.agg #[.bool b0,.bool b1,.bool b2,.bool b3,.bool b4,.bool b5]) (.int .i64 4)) w= .ok (.bool b4) w:=fun _ _ _ _ _ _ _=>rfl;go_enter Tryz.func126,Tryz.ntmps126;go_wp2_with fail;refine(HO.o _).mono ?_;rintro e w1 ⟨rfl,hb1⟩;have hX1:=(hb1.block _ (aC.1 HX0.o).1).trans HX0.o;obtain⟨-,-,-,-,-,-,c6⟩:=seven7 hX1;have HR2:=aB ((hb1.block _ (aC.1 HR0.o).1).trans HR0.o);have HB2:=aB (HB0.o.call hb1);clear hb1 hX1 HR0 HB0;have HR0:=HR2;have HB0:=HB2;clear HR2 HB2;go_wp2_with fail;refine(struth_any _ _).mono ?_;rintro e w3 ⟨rfl,hb1⟩;have HR1:=aB ((hb1.block _ (aC.1 HR0.o).1).trans HR0.o);have HB1:=aB (HB0.o.call hb1);clear hb1;go_wp2_with (refine bA rfl rfl rfl rfl (cells3 (tVl (decide (0<c)))) HR1.o rfl rfl vlInfo rfl ?_)
  intro w9 hB9 hX9;go_wp2;refine bodyPost_ret (v:=VlV (tVl (decide (0<c)))) (results_cell_row (p:=2) (ty:=26) rfl _ _ (w.heap.size+1) 26 _ (0,0) _ rfl hX9 Tryz.underlying26 rfl vlInfo) rfl ⟨rfl,?_⟩;exact hB9.bl HB1.o (by omega)
 ·have HE:Hid (truthO 12 c=decide (0<=c)):=rfl;rw[HE.o];have hidx:∀(b0 b1 b2 b3 b4 b5:Bool) (w:World),Sem.run Tryz.prog (Instr.index 200 (.agg #[.bool b0,.bool b1,.bool b2,.bool b3,.bool b4,.bool b5]) (.int .i64 5)) w= .ok (.bool b5) w:=fun _ _ _ _ _ _ _=>rfl;go_enter Tryz.func126,Tryz.ntmps126;go_wp2_with fail;refine(HO.o _).mono ?_;rintro e w1 ⟨rfl,hb1⟩;have hX1:=(hb1.block _ (aC.1 HX0.o).1).trans HX0.o;obtain⟨-,-,-,-,-,-,c6⟩:=seven7 hX1;have HR2:=aB ((hb1.block _ (aC.1 HR0.o).1).trans HR0.o);have HB2:=aB (HB0.o.call hb1);clear hb1 hX1 HR0 HB0;have HR0:=HR2;have HB0:=HB2;clear HR2 HB2;go_wp2_with fail;refine(struth_any _ _).mono ?_;rintro e w3 ⟨rfl,hb1⟩;have HR1:=aB ((hb1.block _ (aC.1 HR0.o).1).trans HR0.o);have HB1:=aB (HB0.o.call hb1);clear hb1;go_wp2_with (refine bA rfl rfl rfl rfl (cells3 (tVl (decide (0<=c)))) HR1.o rfl rfl vlInfo rfl ?_)
  intro w9 hB9 hX9;go_wp2;refine bodyPost_ret (v:=VlV (tVl (decide (0<=c)))) (results_cell_row (p:=2) (ty:=26) rfl _ _ (w.heap.size+1) 26 _ (0,0) _ rfl hX9 Tryz.underlying26 rfl vlInfo) rfl ⟨rfl,?_⟩;exact hB9.bl HB1.o (by omega)
theorem andL_two(x y:Int)(hx:x=0\/x=1\/x=2):andL [x,y]=d2d x y:=by
 show d2d (d2d 1 x) y=_;rw[and2_one x hx]
theorem orL_two(x y:Int)(hx:x=0\/x=1\/x=2)(hy:y=0\/y=1\/y=2):orL [x,y]=or2 x y:=by
 rcases hx with rfl|rfl|rfl<;>rcases hy with rfl|rfl|rfl<;>decide
theorem three_bd{x:Int}(h:x=0\/x=1\/x=2): -9223372036854775808<=x/\x<=9223372036854775807:=by omega
theorem or2_range(a b:Int):or2 a b=0\/or2 a b=1\/or2 a b=2:=not2_range _
def logicV(o x y:Int):Vl:=if o=13 then kVl (d2d x y) else if o=14 then kVl (or2 x y) else kVl (c9p x)
theorem known_max{v:Vl}(h:knVl v=0\/knVl v=1\/knVl v=2):max 0 (knVl v)=knVl v:=by omega
theorem splogic_any(k n:Int)(s:List UInt8)(k' n':Int)(s':List UInt8)(o:Int)(hn: -9223372036854775808<=n/\n<=9223372036854775807)(hn': -9223372036854775808<=n'/\n'<=9223372036854775807)(hx:knVl (k,n,s)=0\/knVl (k,n,s)=1\/knVl (k,n,s)=2)(hy:knVl (k',n',s')=0\/knVl (k',n',s')=1\/knVl (k',n',s')=2)(w:World):
  Calls Tryz.prog 125 #[SV k n s k' n' s' o] w fun e w'=>e= .returned (VlV (logicV o (knVl (k,n,s)) (knVl (k',n',s'))))/\Bl w w':=by
 have HKA:Hid (∀w,Calls Tryz.prog 149 #[V k n s] w fun e w'=>e= .returned (.tuple #[.int .i64 (knVl (k,n,s)),.bool (decide (0<=knVl (k,n,s)))])/\Bl w w'):=fun w=>by
  have h:=Known_any k n s hn.1 hn.2 w;rw[show max 0 (d1d k n s)=d1d k n s from known_max (v:=(k,n,s)) hx] at h;exact h
 have HKB:Hid (∀w,Calls Tryz.prog 149 #[V k' n' s'] w fun e w'=>e= .returned (.tuple #[.int .i64 (knVl (k',n',s')),.bool (decide (0<=knVl (k',n',s')))])/\Bl w w'):=fun w=>by
  have h:=Known_any k' n' s' hn'.1 hn'.2 w;rw[show max 0 (d1d k' n' s')=d1d k' n' s' from known_max (v:=(k',n',s')) hy] at h;exact h
 generalize knVl (k,n,s)=x at *;generalize knVl (k',n',s')=y at *;have HXX:=aB hx;have HYY:=aB hy;have HR0:=aB (aV (w.alloc (.cells #[.int .i64 k,.int .i64 n,S s,.int .i64 k',.int .i64 n',S s',.int .i64 o] 164)) (.cells #[.int .i64 0,.int .i64 0,S []] 26) (k:=w.heap.size+1) (by simp));have HX0:=aB ((aW (w.alloc (.cells #[.int .i64 k,.int .i64 n,S s,.int .i64 k',.int .i64 n',S s',.int .i64 o] 164)) (.cells #[.int .i64 0,.int .i64 0,S []] 26) (by simp)).trans (aN w (.cells #[.int .i64 k,.int .i64 n,S s,.int .i64 k',.int .i64 n',S s',.int .i64 o] 164)));have HB0:=aB (((Bl.refl w).alloc (.cells #[.int .i64 k,.int .i64 n,S s,.int .i64 k',.int .i64 n',S s',.int .i64 o] 164)).alloc (.cells #[.int .i64 0,.int .i64 0,S []] 26));clear hn hn' hx hy;by_cases h13:o=13
 ·subst h13;have HE:Hid (logicV 13 x y=kVl (d2d x y)):=rfl;rw[HE.o];go_enter Tryz.func125,Tryz.ntmps125;go_wp2_with fail;refine(HKA.o _).mono ?_;rintro e w1 ⟨rfl,hb1⟩;have HX1:=aB ((hb1.block _ (aC.1 HX0.o).1).trans HX0.o);have HR1:=aB ((hb1.block _ (aC.1 HR0.o).1).trans HR0.o);have HB1:=aB (HB0.o.call hb1);obtain⟨-,-,-,c3,c4,c5,-⟩:=seven7 HX1.o;clear hb1;go_wp2_with fail;refine(HKB.o _).mono ?_;rintro e w2 ⟨rfl,hb1⟩;have HX2:=aB ((hb1.block _ (aC.1 HX1.o).1).trans HX1.o);have HR2:=aB ((hb1.block _ (aC.1 HR1.o).1).trans HR1.o);have HB2:=aB (HB1.o.call hb1);clear hb1 c3 c4 c5;obtain⟨-,-,-,-,-,-,c6⟩:=seven7 HX2.o;go_wp2_with fail;refine(And_any _ _ _ [x,y] (by simp) _ (.inr ⟨_,_,_,rfl,by simp,?_⟩)).mono ?_
  ·intro j hj
   match j,hj with
   |0,_=>simp[go_sem]
   |1,_=>simp[go_sem]
  rintro e w3 ⟨rfl,hb1⟩;rw[andL_two x y HXX.o];have HR3:=aB ((hb1.block _ (by have:=(aC.1 HR2.o).1;simp;omega)).trans ((aW _ _ (aC.1 HR2.o).1).trans HR2.o));have HB3:=aB ((HB2.o.alloc _).call hb1);clear hb1 c6;go_wp2_with fail;refine(Of_kVl (d2d x y) (three_bd (and2_range x y)).1 (three_bd (and2_range x y)).2 _).mono ?_;rintro e w4 ⟨rfl,hb1⟩;clear HR0 HB0;have HR0:=HR3;have HB0:=HB3;clear HR1 HB1;have HR1:=aB ((hb1.block _ (aC.1 HR0.o).1).trans HR0.o);have HB1:=aB (HB0.o.call hb1);clear hb1;go_wp2_with (refine bA rfl rfl rfl rfl (cells3 (kVl (d2d x y))) HR1.o rfl rfl vlInfo rfl ?_)
  intro w9 hB9 hX9;go_wp2;refine bodyPost_ret (v:=VlV (kVl (d2d x y))) (results_cell_row (p:=2) (ty:=26) rfl _ _ (w.heap.size+1) 26 _ (0,0) _ rfl hX9 Tryz.underlying26 rfl vlInfo) rfl ⟨rfl,?_⟩;exact hB9.bl HB1.o (by omega)
 have g13:(o==13)=false:=(by simpa using h13);by_cases h14:o=14
 ·subst h14;have HE:Hid (logicV 14 x y=kVl (or2 x y)):=rfl;rw[HE.o];go_enter Tryz.func125,Tryz.ntmps125;go_wp2_with fail;refine(HKA.o _).mono ?_;rintro e w1 ⟨rfl,hb1⟩;have HX1:=aB ((hb1.block _ (aC.1 HX0.o).1).trans HX0.o);have HR1:=aB ((hb1.block _ (aC.1 HR0.o).1).trans HR0.o);have HB1:=aB (HB0.o.call hb1);obtain⟨-,-,-,c3,c4,c5,-⟩:=seven7 HX1.o;clear hb1;go_wp2_with fail;refine(HKB.o _).mono ?_;rintro e w2 ⟨rfl,hb1⟩;have HX2:=aB ((hb1.block _ (aC.1 HX1.o).1).trans HX1.o);have HR2:=aB ((hb1.block _ (aC.1 HR1.o).1).trans HR1.o);have HB2:=aB (HB1.o.call hb1);clear hb1 c3 c4 c5;obtain⟨-,-,-,-,-,-,c6⟩:=seven7 HX2.o;go_wp2_with fail;refine(Or_any _ _ _ [x,y] (by simp) _ (.inr ⟨_,_,_,rfl,by simp,?_⟩)).mono ?_
  ·intro j hj
   match j,hj with
   |0,_=>simp[go_sem]
   |1,_=>simp[go_sem]
  rintro e w3 ⟨rfl,hb1⟩;rw[orL_two x y HXX.o HYY.o];have HR3:=aB ((hb1.block _ (by have:=(aC.1 HR2.o).1;simp;omega)).trans ((aW _ _ (aC.1 HR2.o).1).trans HR2.o));have HB3:=aB ((HB2.o.alloc _).call hb1);clear hb1 c6;go_wp2_with fail;refine(Of_kVl (or2 x y) (three_bd (or2_range x y)).1 (three_bd (or2_range x y)).2 _).mono ?_;rintro e w4 ⟨rfl,hb1⟩;clear HR0 HB0;have HR0:=HR3;have HB0:=HB3;clear HR1 HB1;have HR1:=aB ((hb1.block _ (aC.1 HR0.o).1).trans HR0.o);have HB1:=aB (HB0.o.call hb1);clear hb1;go_wp2_with (refine bA rfl rfl rfl rfl (cells3 (kVl (or2 x y))) HR1.o rfl rfl vlInfo rfl ?_)
  intro w9 hB9 hX9;go_wp2;refine bodyPost_ret (v:=VlV (kVl (or2 x y))) (results_cell_row (p:=2) (ty:=26) rfl _ _ (w.heap.size+1) 26 _ (0,0) _ rfl hX9 Tryz.underlying26 rfl vlInfo) rfl ⟨rfl,?_⟩;exact hB9.bl HB1.o (by omega)
 have g14:(o==14)=false:=(by simpa using h14);have HE:Hid (logicV o x y=kVl (c9p x)):=(by show _=_;unfold logicV;rw[if_neg h13,if_neg h14]);rw[HE.o];clear h13 h14;go_enter Tryz.func125,Tryz.ntmps125;go_wp2_with fail;refine(HKA.o _).mono ?_;rintro e w1 ⟨rfl,hb1⟩;have HX1:=aB ((hb1.block _ (aC.1 HX0.o).1).trans HX0.o);have HR1:=aB ((hb1.block _ (aC.1 HR0.o).1).trans HR0.o);have HB1:=aB (HB0.o.call hb1);obtain⟨-,-,-,c3,c4,c5,-⟩:=seven7 HX1.o;clear hb1;go_wp2_with fail;refine(HKB.o _).mono ?_;rintro e w2 ⟨rfl,hb1⟩;have HX2:=aB ((hb1.block _ (aC.1 HX1.o).1).trans HX1.o);have HR2:=aB ((hb1.block _ (aC.1 HR1.o).1).trans HR1.o);have HB2:=aB (HB1.o.call hb1);clear hb1 c3 c4 c5;obtain⟨-,-,-,-,-,-,c6⟩:=seven7 HX2.o;go_wp2_with fail;refine(Not_any x _).mono ?_;rintro e w3 ⟨rfl,rfl⟩;go_wp2_with fail;refine(Of_kVl (c9p x) (three_bd (not2_range x)).1 (three_bd (not2_range x)).2 _).mono ?_;rintro e w4 ⟨rfl,hb1⟩;clear HR0 HB0;have HR0:=HR2;have HB0:=HB2;clear HR1 HB1;have HR1:=aB ((hb1.block _ (aC.1 HR0.o).1).trans HR0.o);have HB1:=aB (HB0.o.call hb1);clear hb1;go_wp2_with (refine bA rfl rfl rfl rfl (cells3 (kVl (c9p x))) HR1.o rfl rfl vlInfo rfl ?_)
 intro w9 hB9 hX9;go_wp2;refine bodyPost_ret (v:=VlV (kVl (c9p x))) (results_cell_row (p:=2) (ty:=26) rfl _ _ (w.heap.size+1) 26 _ (0,0) _ rfl hX9 Tryz.underlying26 rfl vlInfo) rfl ⟨rfl,?_⟩;exact hB9.bl HB1.o (by omega)
end
section
theorem spmul_yes(k n:Int)(s:List UInt8)(k' n':Int)(s':List UInt8)(ha0: -9223372036854775808<=n)(ha1:n<=9223372036854775807)(hb0: -9223372036854775808<=n')(hb1:n'<=9223372036854775807)(w:World)(lo:Int)
  (HM:Hid (∀w,Calls Tryz.prog 178 #[.int .u64 (n.natAbs:Int),.int .u64 (n'.natAbs:Int)] w fun e w'=>e= .returned (.tuple #[.int .u64 0,.int .u64 lo])/\w'=w)) (hw:IntKind.i64.wrap (n * n')=n * n')
  (hl:lo<=9223372036854775807\/lo<=9223372036854775808/\¬(n<0↔n'<0)):
  Calls Tryz.prog 155 #[PV k n s k' n' s'] w fun e w'=>e= .returned (V 2 (n * n') [])/\Bl w w':=by
 have HA:=aB (fun w=>spmul1_any n ha0 ha1 w);have HC:=aB (fun w=>spmul1_any n' hb0 hb1 w);generalize ((n.natAbs:Nat):Int)=x at *;generalize ((n'.natAbs:Nat):Int)=y at *;have HX0:=aB ((aW (w.alloc (.cells #[.int .i64 k,.int .i64 n,S s,.int .i64 k',.int .i64 n',S s'] 162)) (.cells #[.int .i64 0,.int .i64 0,S []] 26) (by simp)).trans (aN w (.cells #[.int .i64 k,.int .i64 n,S s,.int .i64 k',.int .i64 n',S s'] 162)));have HR0:=aB (aV (w.alloc (.cells #[.int .i64 k,.int .i64 n,S s,.int .i64 k',.int .i64 n',S s'] 162)) (.cells #[.int .i64 0,.int .i64 0,S []] 26) (k:=w.heap.size+1) (by simp));have HB0:=aB (((Bl.refl w).alloc (.cells #[.int .i64 k,.int .i64 n,S s,.int .i64 k',.int .i64 n',S s'] 162)).alloc (.cells #[.int .i64 0,.int .i64 0,S []] 26));by_cases p1:n<0
 ·by_cases p2:n'<0
  ·have h1:lo<=9223372036854775807:=by omega
   clear hl;have q1:decide (n<0)=true:=decide_eq_true p1;have q2:decide (n'<0)=true:=decide_eq_true p2;go_enter Tryz.func155,Tryz.ntmps155;go_wp2_with fail;refine wp_region_noPanic (bM (fun B=>B.heap[w.heap.size]?=some (.cells #[.int .i64 k,.int .i64 n,S s,.int .i64 k',.int .i64 n',S s'] 162 (0,0))) ((.take 0 (.take 1 (.take 2 (.take 3 (.take 5 (.take 6 (.take 7 (.take 8 (.one 4 (.one 9 (.one 10 (.take 11 (.take 12 (.take 13 (.take 14 (.take 15 .done))))))))))))))))) (by kernel_rfl) (by kernel_rfl) (by kernel_rfl) (fun _ _ _ _ _ h=>h) (HX0.o) ?_);intro wd HWD hY;iterate 8 (refine aI rfl (by rfl) (by intro w hSw;(try dsimp only at hSw);obtain⟨e0,e1,e2,e3,e4,e5⟩:=six6 hSw;go_simp;(try(first |with_reducible rfl|rfl))) ?_;(try simp only[aK,aA,aD,aF]))
   refine aL rfl (fun K hK=>?_);go_simp;((with_reducible refine(HA.o _).mono ?_);rintro e w3 ⟨rfl,rfl⟩);go_wp2_with fail;refine hK.o _ _ (hY) ?_;clear hY hK K;intro hY;refine aL rfl (fun K hK=>?_);go_simp;((with_reducible refine(HC.o _).mono ?_);rintro e w4 ⟨rfl,rfl⟩);go_wp2_with fail;refine hK.o _ _ (hY) ?_;clear hY hK K;intro hY;refine aL rfl (fun K hK=>?_);go_simp;((with_reducible refine(HM.o _).mono ?_);rintro e w5 ⟨rfl,rfl⟩);go_wp2_with fail;refine hK.o _ _ (hY) ?_;clear hY hK K;intro hY;iterate 5 (refine aI rfl (by rfl) (by intro w hSw;(try dsimp only at hSw);obtain⟨e0,e1,e2,e3,e4,e5⟩:=six6 hSw;go_simp;(try(first |with_reducible rfl|rfl))) ?_;(try simp only[aK,aA,aD,aF]))
   refine fO (bF ?_);obtain⟨e0,e1,e2,e3,e4,e5⟩:=six6 hY;go_wp2_with fail
   (try rw[decide_eq_true h1])
   (with_reducible refine(snumber_yes _ _).mono ?_)
   rintro e w1 ⟨rfl,hb1⟩;go_wp2_with (refine bA rfl rfl rfl rfl (cells3 (2,n * n',[])) (keep_b HR0.o (HWD.o.call hb1)) rfl rfl vlInfo rfl ?_)
   intro w9 hB9 hX9;go_wp2;exact bodyPost_ret (v:=VlV (2,n * n',[])) (results_cell_row (p:=2) (ty:=26) rfl _ _ (w.heap.size+1) 26 _ (0,0) _ rfl hX9 Tryz.underlying26 rfl vlInfo) rfl ⟨rfl,hB9.bl (HB0.o.call (HWD.o.call hb1)) (by omega)⟩
  ·have h1:lo<=9223372036854775808:=by omega
   clear hl;have q1:decide (n<0)=true:=decide_eq_true p1;have q2:decide (n'<0)=false:=decide_eq_false p2;go_enter Tryz.func155,Tryz.ntmps155;go_wp2_with fail;refine wp_region_noPanic (bM (fun B=>B.heap[w.heap.size]?=some (.cells #[.int .i64 k,.int .i64 n,S s,.int .i64 k',.int .i64 n',S s'] 162 (0,0))) ((.take 0 (.take 1 (.take 2 (.take 3 (.take 5 (.take 6 (.take 7 (.take 8 (.one 4 (.one 9 (.one 10 (.take 11 (.take 12 (.take 13 (.take 14 (.take 15 .done))))))))))))))))) (by kernel_rfl) (by kernel_rfl) (by kernel_rfl) (fun _ _ _ _ _ h=>h) (HX0.o) ?_);intro wd HWD hY;iterate 8 (refine aI rfl (by rfl) (by intro w hSw;(try dsimp only at hSw);obtain⟨e0,e1,e2,e3,e4,e5⟩:=six6 hSw;go_simp;(try(first |with_reducible rfl|rfl))) ?_;(try simp only[aK,aA,aD,aF]))
   refine aL rfl (fun K hK=>?_);go_simp;((with_reducible refine(HA.o _).mono ?_);rintro e w3 ⟨rfl,rfl⟩);go_wp2_with fail;refine hK.o _ _ (hY) ?_;clear hY hK K;intro hY;refine aL rfl (fun K hK=>?_);go_simp;((with_reducible refine(HC.o _).mono ?_);rintro e w4 ⟨rfl,rfl⟩);go_wp2_with fail;refine hK.o _ _ (hY) ?_;clear hY hK K;intro hY;refine aL rfl (fun K hK=>?_);go_simp;((with_reducible refine(HM.o _).mono ?_);rintro e w5 ⟨rfl,rfl⟩);go_wp2_with fail;refine hK.o _ _ (hY) ?_;clear hY hK K;intro hY;iterate 5 (refine aI rfl (by rfl) (by intro w hSw;(try dsimp only at hSw);obtain⟨e0,e1,e2,e3,e4,e5⟩:=six6 hSw;go_simp;(try(first |with_reducible rfl|rfl))) ?_;(try simp only[aK,aA,aD,aF]))
   refine fO (bF ?_);obtain⟨e0,e1,e2,e3,e4,e5⟩:=six6 hY;go_wp2_with fail
   (try rw[decide_eq_true h1])
   (with_reducible refine(snumber_yes _ _).mono ?_)
   rintro e w1 ⟨rfl,hb1⟩;go_wp2_with (refine bA rfl rfl rfl rfl (cells3 (2,n * n',[])) (keep_b HR0.o (HWD.o.call hb1)) rfl rfl vlInfo rfl ?_)
   intro w9 hB9 hX9;go_wp2;exact bodyPost_ret (v:=VlV (2,n * n',[])) (results_cell_row (p:=2) (ty:=26) rfl _ _ (w.heap.size+1) 26 _ (0,0) _ rfl hX9 Tryz.underlying26 rfl vlInfo) rfl ⟨rfl,hB9.bl (HB0.o.call (HWD.o.call hb1)) (by omega)⟩
 ·by_cases p2:n'<0
  ·have h1:lo<=9223372036854775808:=by omega
   clear hl;have q1:decide (n<0)=false:=decide_eq_false p1;have q2:decide (n'<0)=true:=decide_eq_true p2;go_enter Tryz.func155,Tryz.ntmps155;go_wp2_with fail;refine wp_region_noPanic (bM (fun B=>B.heap[w.heap.size]?=some (.cells #[.int .i64 k,.int .i64 n,S s,.int .i64 k',.int .i64 n',S s'] 162 (0,0))) ((.take 0 (.take 1 (.take 2 (.take 3 (.take 5 (.take 6 (.take 7 (.take 8 (.one 4 (.one 9 (.one 10 (.take 11 (.take 12 (.take 13 (.take 14 (.take 15 .done))))))))))))))))) (by kernel_rfl) (by kernel_rfl) (by kernel_rfl) (fun _ _ _ _ _ h=>h) (HX0.o) ?_);intro wd HWD hY;iterate 8 (refine aI rfl (by rfl) (by intro w hSw;(try dsimp only at hSw);obtain⟨e0,e1,e2,e3,e4,e5⟩:=six6 hSw;go_simp;(try(first |with_reducible rfl|rfl))) ?_;(try simp only[aK,aA,aD,aF]))
   refine aL rfl (fun K hK=>?_);go_simp;((with_reducible refine(HA.o _).mono ?_);rintro e w3 ⟨rfl,rfl⟩);go_wp2_with fail;refine hK.o _ _ (hY) ?_;clear hY hK K;intro hY;refine aL rfl (fun K hK=>?_);go_simp;((with_reducible refine(HC.o _).mono ?_);rintro e w4 ⟨rfl,rfl⟩);go_wp2_with fail;refine hK.o _ _ (hY) ?_;clear hY hK K;intro hY;refine aL rfl (fun K hK=>?_);go_simp;((with_reducible refine(HM.o _).mono ?_);rintro e w5 ⟨rfl,rfl⟩);go_wp2_with fail;refine hK.o _ _ (hY) ?_;clear hY hK K;intro hY;iterate 5 (refine aI rfl (by rfl) (by intro w hSw;(try dsimp only at hSw);obtain⟨e0,e1,e2,e3,e4,e5⟩:=six6 hSw;go_simp;(try(first |with_reducible rfl|rfl))) ?_;(try simp only[aK,aA,aD,aF]))
   refine fO (bF ?_);obtain⟨e0,e1,e2,e3,e4,e5⟩:=six6 hY;go_wp2_with fail
   (try rw[decide_eq_true h1])
   (with_reducible refine(snumber_yes _ _).mono ?_)
   rintro e w1 ⟨rfl,hb1⟩;go_wp2_with (refine bA rfl rfl rfl rfl (cells3 (2,n * n',[])) (keep_b HR0.o (HWD.o.call hb1)) rfl rfl vlInfo rfl ?_)
   intro w9 hB9 hX9;go_wp2;exact bodyPost_ret (v:=VlV (2,n * n',[])) (results_cell_row (p:=2) (ty:=26) rfl _ _ (w.heap.size+1) 26 _ (0,0) _ rfl hX9 Tryz.underlying26 rfl vlInfo) rfl ⟨rfl,hB9.bl (HB0.o.call (HWD.o.call hb1)) (by omega)⟩
  ·have h1:lo<=9223372036854775807:=by omega
   clear hl;have q1:decide (n<0)=false:=decide_eq_false p1;have q2:decide (n'<0)=false:=decide_eq_false p2;go_enter Tryz.func155,Tryz.ntmps155;go_wp2_with fail;refine wp_region_noPanic (bM (fun B=>B.heap[w.heap.size]?=some (.cells #[.int .i64 k,.int .i64 n,S s,.int .i64 k',.int .i64 n',S s'] 162 (0,0))) ((.take 0 (.take 1 (.take 2 (.take 3 (.take 5 (.take 6 (.take 7 (.take 8 (.one 4 (.one 9 (.one 10 (.take 11 (.take 12 (.take 13 (.take 14 (.take 15 .done))))))))))))))))) (by kernel_rfl) (by kernel_rfl) (by kernel_rfl) (fun _ _ _ _ _ h=>h) (HX0.o) ?_);intro wd HWD hY;iterate 8 (refine aI rfl (by rfl) (by intro w hSw;(try dsimp only at hSw);obtain⟨e0,e1,e2,e3,e4,e5⟩:=six6 hSw;go_simp;(try(first |with_reducible rfl|rfl))) ?_;(try simp only[aK,aA,aD,aF]))
   refine aL rfl (fun K hK=>?_);go_simp;((with_reducible refine(HA.o _).mono ?_);rintro e w3 ⟨rfl,rfl⟩);go_wp2_with fail;refine hK.o _ _ (hY) ?_;clear hY hK K;intro hY;refine aL rfl (fun K hK=>?_);go_simp;((with_reducible refine(HC.o _).mono ?_);rintro e w4 ⟨rfl,rfl⟩);go_wp2_with fail;refine hK.o _ _ (hY) ?_;clear hY hK K;intro hY;refine aL rfl (fun K hK=>?_);go_simp;((with_reducible refine(HM.o _).mono ?_);rintro e w5 ⟨rfl,rfl⟩);go_wp2_with fail;refine hK.o _ _ (hY) ?_;clear hY hK K;intro hY;iterate 5 (refine aI rfl (by rfl) (by intro w hSw;(try dsimp only at hSw);obtain⟨e0,e1,e2,e3,e4,e5⟩:=six6 hSw;go_simp;(try(first |with_reducible rfl|rfl))) ?_;(try simp only[aK,aA,aD,aF]))
   refine fO (bF ?_);obtain⟨e0,e1,e2,e3,e4,e5⟩:=six6 hY;go_wp2_with fail
   (try rw[decide_eq_true h1])
   (with_reducible refine(snumber_yes _ _).mono ?_)
   rintro e w1 ⟨rfl,hb1⟩;go_wp2_with (refine bA rfl rfl rfl rfl (cells3 (2,n * n',[])) (keep_b HR0.o (HWD.o.call hb1)) rfl rfl vlInfo rfl ?_)
   intro w9 hB9 hX9;go_wp2;exact bodyPost_ret (v:=VlV (2,n * n',[])) (results_cell_row (p:=2) (ty:=26) rfl _ _ (w.heap.size+1) 26 _ (0,0) _ rfl hX9 Tryz.underlying26 rfl vlInfo) rfl ⟨rfl,hB9.bl (HB0.o.call (HWD.o.call hb1)) (by omega)⟩
theorem spmul_no(k n:Int)(s:List UInt8)(k' n':Int)(s':List UInt8)(ha0: -9223372036854775808<=n)(ha1:n<=9223372036854775807)(hb0: -9223372036854775808<=n')(hb1:n'<=9223372036854775807)(w:World)(hi lo:Int)
  (HM:Hid (∀w,Calls Tryz.prog 178 #[.int .u64 (n.natAbs:Int),.int .u64 (n'.natAbs:Int)] w fun e w'=>e= .returned (.tuple #[.int .u64 hi,.int .u64 lo])/\w'=w))
  (hl:¬hi=0\/hi=0/\(¬lo<=9223372036854775808\/¬lo<=9223372036854775807/\(n<0↔n'<0))):
  Calls Tryz.prog 155 #[PV k n s k' n' s'] w fun e w'=>e=panE 122/\Bl w w':=by
 have HA:=aB (fun w=>spmul1_any n ha0 ha1 w);have HC:=aB (fun w=>spmul1_any n' hb0 hb1 w);generalize ((n.natAbs:Nat):Int)=x at *;generalize ((n'.natAbs:Nat):Int)=y at *;have HX0:=aB ((aW (w.alloc (.cells #[.int .i64 k,.int .i64 n,S s,.int .i64 k',.int .i64 n',S s'] 162)) (.cells #[.int .i64 0,.int .i64 0,S []] 26) (by simp)).trans (aN w (.cells #[.int .i64 k,.int .i64 n,S s,.int .i64 k',.int .i64 n',S s'] 162)));have HR0:=aB (aV (w.alloc (.cells #[.int .i64 k,.int .i64 n,S s,.int .i64 k',.int .i64 n',S s'] 162)) (.cells #[.int .i64 0,.int .i64 0,S []] 26) (k:=w.heap.size+1) (by simp));have HB0:=aB (((Bl.refl w).alloc (.cells #[.int .i64 k,.int .i64 n,S s,.int .i64 k',.int .i64 n',S s'] 162)).alloc (.cells #[.int .i64 0,.int .i64 0,S []] 26));rcases hl with h|⟨rfl,hl⟩
 ·have h0:(hi==0)=false:=by simpa using h
  clear h;by_cases p1:n<0
  ·by_cases p2:n'<0
   ·skip
    have q1:decide (n<0)=true:=decide_eq_true p1;have q2:decide (n'<0)=true:=decide_eq_true p2;go_enter Tryz.func155,Tryz.ntmps155;go_wp2_with fail;refine wp_region_noPanic (bM (fun B=>B.heap[w.heap.size]?=some (.cells #[.int .i64 k,.int .i64 n,S s,.int .i64 k',.int .i64 n',S s'] 162 (0,0))) ((.take 0 (.take 1 (.take 2 (.take 3 (.take 5 (.take 6 (.take 7 (.take 8 (.one 4 (.one 9 (.one 10 (.take 11 (.take 12 (.take 13 (.take 14 (.take 15 .done))))))))))))))))) (by kernel_rfl) (by kernel_rfl) (by kernel_rfl) (fun _ _ _ _ _ h=>h) (HX0.o) ?_);intro wd HWD hY;iterate 8 (refine aI rfl (by rfl) (by intro w hSw;(try dsimp only at hSw);obtain⟨e0,e1,e2,e3,e4,e5⟩:=six6 hSw;go_simp;(try(first |with_reducible rfl|rfl))) ?_;(try simp only[aK,aA,aD,aF]))
    refine aL rfl (fun K hK=>?_);go_simp;((with_reducible refine(HA.o _).mono ?_);rintro e w3 ⟨rfl,rfl⟩);go_wp2_with fail;refine hK.o _ _ (hY) ?_;clear hY hK K;intro hY;refine aL rfl (fun K hK=>?_);go_simp;((with_reducible refine(HC.o _).mono ?_);rintro e w4 ⟨rfl,rfl⟩);go_wp2_with fail;refine hK.o _ _ (hY) ?_;clear hY hK K;intro hY;refine aL rfl (fun K hK=>?_);go_simp;((with_reducible refine(HM.o _).mono ?_);rintro e w5 ⟨rfl,rfl⟩);go_wp2_with fail;refine hK.o _ _ (hY) ?_;clear hY hK K;intro hY;iterate 5 (refine aI rfl (by rfl) (by intro w hSw;(try dsimp only at hSw);obtain⟨e0,e1,e2,e3,e4,e5⟩:=six6 hSw;go_simp;(try(first |with_reducible rfl|rfl))) ?_;(try simp only[aK,aA,aD,aF]))
    refine fO (bF ?_);obtain⟨e0,e1,e2,e3,e4,e5⟩:=six6 hY;go_wp2_with fail
    (first |rw[decide_eq_false (show ¬lo<=9223372036854775808 by omega)]|rw[decide_eq_false (show ¬lo<=9223372036854775807 by omega)]|skip);(with_reducible refine(snumber_no _ _).mono ?_)
    rintro e w1 ⟨rfl,hb1⟩;go_wp2;exact⟨rfl,rfl,HB0.o.call (HWD.o.call hb1)⟩
   ·skip
    have q1:decide (n<0)=true:=decide_eq_true p1;have q2:decide (n'<0)=false:=decide_eq_false p2;go_enter Tryz.func155,Tryz.ntmps155;go_wp2_with fail;refine wp_region_noPanic (bM (fun B=>B.heap[w.heap.size]?=some (.cells #[.int .i64 k,.int .i64 n,S s,.int .i64 k',.int .i64 n',S s'] 162 (0,0))) ((.take 0 (.take 1 (.take 2 (.take 3 (.take 5 (.take 6 (.take 7 (.take 8 (.one 4 (.one 9 (.one 10 (.take 11 (.take 12 (.take 13 (.take 14 (.take 15 .done))))))))))))))))) (by kernel_rfl) (by kernel_rfl) (by kernel_rfl) (fun _ _ _ _ _ h=>h) (HX0.o) ?_);intro wd HWD hY;iterate 8 (refine aI rfl (by rfl) (by intro w hSw;(try dsimp only at hSw);obtain⟨e0,e1,e2,e3,e4,e5⟩:=six6 hSw;go_simp;(try(first |with_reducible rfl|rfl))) ?_;(try simp only[aK,aA,aD,aF]))
    refine aL rfl (fun K hK=>?_);go_simp;((with_reducible refine(HA.o _).mono ?_);rintro e w3 ⟨rfl,rfl⟩);go_wp2_with fail;refine hK.o _ _ (hY) ?_;clear hY hK K;intro hY;refine aL rfl (fun K hK=>?_);go_simp;((with_reducible refine(HC.o _).mono ?_);rintro e w4 ⟨rfl,rfl⟩);go_wp2_with fail;refine hK.o _ _ (hY) ?_;clear hY hK K;intro hY;refine aL rfl (fun K hK=>?_);go_simp;((with_reducible refine(HM.o _).mono ?_);rintro e w5 ⟨rfl,rfl⟩);go_wp2_with fail;refine hK.o _ _ (hY) ?_;clear hY hK K;intro hY;iterate 5 (refine aI rfl (by rfl) (by intro w hSw;(try dsimp only at hSw);obtain⟨e0,e1,e2,e3,e4,e5⟩:=six6 hSw;go_simp;(try(first |with_reducible rfl|rfl))) ?_;(try simp only[aK,aA,aD,aF]))
    refine fO (bF ?_);obtain⟨e0,e1,e2,e3,e4,e5⟩:=six6 hY;go_wp2_with fail
    (first |rw[decide_eq_false (show ¬lo<=9223372036854775808 by omega)]|rw[decide_eq_false (show ¬lo<=9223372036854775807 by omega)]|skip);(with_reducible refine(snumber_no _ _).mono ?_)
    rintro e w1 ⟨rfl,hb1⟩;go_wp2;exact⟨rfl,rfl,HB0.o.call (HWD.o.call hb1)⟩
  ·by_cases p2:n'<0
   ·skip
    have q1:decide (n<0)=false:=decide_eq_false p1;have q2:decide (n'<0)=true:=decide_eq_true p2;go_enter Tryz.func155,Tryz.ntmps155;go_wp2_with fail;refine wp_region_noPanic (bM (fun B=>B.heap[w.heap.size]?=some (.cells #[.int .i64 k,.int .i64 n,S s,.int .i64 k',.int .i64 n',S s'] 162 (0,0))) ((.take 0 (.take 1 (.take 2 (.take 3 (.take 5 (.take 6 (.take 7 (.take 8 (.one 4 (.one 9 (.one 10 (.take 11 (.take 12 (.take 13 (.take 14 (.take 15 .done))))))))))))))))) (by kernel_rfl) (by kernel_rfl) (by kernel_rfl) (fun _ _ _ _ _ h=>h) (HX0.o) ?_);intro wd HWD hY;iterate 8 (refine aI rfl (by rfl) (by intro w hSw;(try dsimp only at hSw);obtain⟨e0,e1,e2,e3,e4,e5⟩:=six6 hSw;go_simp;(try(first |with_reducible rfl|rfl))) ?_;(try simp only[aK,aA,aD,aF]))
    refine aL rfl (fun K hK=>?_);go_simp;((with_reducible refine(HA.o _).mono ?_);rintro e w3 ⟨rfl,rfl⟩);go_wp2_with fail;refine hK.o _ _ (hY) ?_;clear hY hK K;intro hY;refine aL rfl (fun K hK=>?_);go_simp;((with_reducible refine(HC.o _).mono ?_);rintro e w4 ⟨rfl,rfl⟩);go_wp2_with fail;refine hK.o _ _ (hY) ?_;clear hY hK K;intro hY;refine aL rfl (fun K hK=>?_);go_simp;((with_reducible refine(HM.o _).mono ?_);rintro e w5 ⟨rfl,rfl⟩);go_wp2_with fail;refine hK.o _ _ (hY) ?_;clear hY hK K;intro hY;iterate 5 (refine aI rfl (by rfl) (by intro w hSw;(try dsimp only at hSw);obtain⟨e0,e1,e2,e3,e4,e5⟩:=six6 hSw;go_simp;(try(first |with_reducible rfl|rfl))) ?_;(try simp only[aK,aA,aD,aF]))
    refine fO (bF ?_);obtain⟨e0,e1,e2,e3,e4,e5⟩:=six6 hY;go_wp2_with fail
    (first |rw[decide_eq_false (show ¬lo<=9223372036854775808 by omega)]|rw[decide_eq_false (show ¬lo<=9223372036854775807 by omega)]|skip);(with_reducible refine(snumber_no _ _).mono ?_)
    rintro e w1 ⟨rfl,hb1⟩;go_wp2;exact⟨rfl,rfl,HB0.o.call (HWD.o.call hb1)⟩
   ·skip
    have q1:decide (n<0)=false:=decide_eq_false p1;have q2:decide (n'<0)=false:=decide_eq_false p2;go_enter Tryz.func155,Tryz.ntmps155;go_wp2_with fail;refine wp_region_noPanic (bM (fun B=>B.heap[w.heap.size]?=some (.cells #[.int .i64 k,.int .i64 n,S s,.int .i64 k',.int .i64 n',S s'] 162 (0,0))) ((.take 0 (.take 1 (.take 2 (.take 3 (.take 5 (.take 6 (.take 7 (.take 8 (.one 4 (.one 9 (.one 10 (.take 11 (.take 12 (.take 13 (.take 14 (.take 15 .done))))))))))))))))) (by kernel_rfl) (by kernel_rfl) (by kernel_rfl) (fun _ _ _ _ _ h=>h) (HX0.o) ?_);intro wd HWD hY;iterate 8 (refine aI rfl (by rfl) (by intro w hSw;(try dsimp only at hSw);obtain⟨e0,e1,e2,e3,e4,e5⟩:=six6 hSw;go_simp;(try(first |with_reducible rfl|rfl))) ?_;(try simp only[aK,aA,aD,aF]))
    refine aL rfl (fun K hK=>?_);go_simp;((with_reducible refine(HA.o _).mono ?_);rintro e w3 ⟨rfl,rfl⟩);go_wp2_with fail;refine hK.o _ _ (hY) ?_;clear hY hK K;intro hY;refine aL rfl (fun K hK=>?_);go_simp;((with_reducible refine(HC.o _).mono ?_);rintro e w4 ⟨rfl,rfl⟩);go_wp2_with fail;refine hK.o _ _ (hY) ?_;clear hY hK K;intro hY;refine aL rfl (fun K hK=>?_);go_simp;((with_reducible refine(HM.o _).mono ?_);rintro e w5 ⟨rfl,rfl⟩);go_wp2_with fail;refine hK.o _ _ (hY) ?_;clear hY hK K;intro hY;iterate 5 (refine aI rfl (by rfl) (by intro w hSw;(try dsimp only at hSw);obtain⟨e0,e1,e2,e3,e4,e5⟩:=six6 hSw;go_simp;(try(first |with_reducible rfl|rfl))) ?_;(try simp only[aK,aA,aD,aF]))
    refine fO (bF ?_);obtain⟨e0,e1,e2,e3,e4,e5⟩:=six6 hY;go_wp2_with fail
    (first |rw[decide_eq_false (show ¬lo<=9223372036854775808 by omega)]|rw[decide_eq_false (show ¬lo<=9223372036854775807 by omega)]|skip);(with_reducible refine(snumber_no _ _).mono ?_)
    rintro e w1 ⟨rfl,hb1⟩;go_wp2;exact⟨rfl,rfl,HB0.o.call (HWD.o.call hb1)⟩
 ·skip
  by_cases p1:n<0
  ·by_cases p2:n'<0
   ·have h1:¬lo<=9223372036854775807:=by omega
    clear hl;have q1:decide (n<0)=true:=decide_eq_true p1;have q2:decide (n'<0)=true:=decide_eq_true p2;go_enter Tryz.func155,Tryz.ntmps155;go_wp2_with fail;refine wp_region_noPanic (bM (fun B=>B.heap[w.heap.size]?=some (.cells #[.int .i64 k,.int .i64 n,S s,.int .i64 k',.int .i64 n',S s'] 162 (0,0))) ((.take 0 (.take 1 (.take 2 (.take 3 (.take 5 (.take 6 (.take 7 (.take 8 (.one 4 (.one 9 (.one 10 (.take 11 (.take 12 (.take 13 (.take 14 (.take 15 .done))))))))))))))))) (by kernel_rfl) (by kernel_rfl) (by kernel_rfl) (fun _ _ _ _ _ h=>h) (HX0.o) ?_);intro wd HWD hY;iterate 8 (refine aI rfl (by rfl) (by intro w hSw;(try dsimp only at hSw);obtain⟨e0,e1,e2,e3,e4,e5⟩:=six6 hSw;go_simp;(try(first |with_reducible rfl|rfl))) ?_;(try simp only[aK,aA,aD,aF]))
    refine aL rfl (fun K hK=>?_);go_simp;((with_reducible refine(HA.o _).mono ?_);rintro e w3 ⟨rfl,rfl⟩);go_wp2_with fail;refine hK.o _ _ (hY) ?_;clear hY hK K;intro hY;refine aL rfl (fun K hK=>?_);go_simp;((with_reducible refine(HC.o _).mono ?_);rintro e w4 ⟨rfl,rfl⟩);go_wp2_with fail;refine hK.o _ _ (hY) ?_;clear hY hK K;intro hY;refine aL rfl (fun K hK=>?_);go_simp;((with_reducible refine(HM.o _).mono ?_);rintro e w5 ⟨rfl,rfl⟩);go_wp2_with fail;refine hK.o _ _ (hY) ?_;clear hY hK K;intro hY;iterate 5 (refine aI rfl (by rfl) (by intro w hSw;(try dsimp only at hSw);obtain⟨e0,e1,e2,e3,e4,e5⟩:=six6 hSw;go_simp;(try(first |with_reducible rfl|rfl))) ?_;(try simp only[aK,aA,aD,aF]))
    refine fO (bF ?_);obtain⟨e0,e1,e2,e3,e4,e5⟩:=six6 hY;go_wp2_with fail
    (first |rw[decide_eq_false (show ¬lo<=9223372036854775808 by omega)]|rw[decide_eq_false (show ¬lo<=9223372036854775807 by omega)]|skip);(with_reducible refine(snumber_no _ _).mono ?_)
    rintro e w1 ⟨rfl,hb1⟩;go_wp2;exact⟨rfl,rfl,HB0.o.call (HWD.o.call hb1)⟩
   ·have h1:¬lo<=9223372036854775808:=by omega
    clear hl;have q1:decide (n<0)=true:=decide_eq_true p1;have q2:decide (n'<0)=false:=decide_eq_false p2;go_enter Tryz.func155,Tryz.ntmps155;go_wp2_with fail;refine wp_region_noPanic (bM (fun B=>B.heap[w.heap.size]?=some (.cells #[.int .i64 k,.int .i64 n,S s,.int .i64 k',.int .i64 n',S s'] 162 (0,0))) ((.take 0 (.take 1 (.take 2 (.take 3 (.take 5 (.take 6 (.take 7 (.take 8 (.one 4 (.one 9 (.one 10 (.take 11 (.take 12 (.take 13 (.take 14 (.take 15 .done))))))))))))))))) (by kernel_rfl) (by kernel_rfl) (by kernel_rfl) (fun _ _ _ _ _ h=>h) (HX0.o) ?_);intro wd HWD hY;iterate 8 (refine aI rfl (by rfl) (by intro w hSw;(try dsimp only at hSw);obtain⟨e0,e1,e2,e3,e4,e5⟩:=six6 hSw;go_simp;(try(first |with_reducible rfl|rfl))) ?_;(try simp only[aK,aA,aD,aF]))
    refine aL rfl (fun K hK=>?_);go_simp;((with_reducible refine(HA.o _).mono ?_);rintro e w3 ⟨rfl,rfl⟩);go_wp2_with fail;refine hK.o _ _ (hY) ?_;clear hY hK K;intro hY;refine aL rfl (fun K hK=>?_);go_simp;((with_reducible refine(HC.o _).mono ?_);rintro e w4 ⟨rfl,rfl⟩);go_wp2_with fail;refine hK.o _ _ (hY) ?_;clear hY hK K;intro hY;refine aL rfl (fun K hK=>?_);go_simp;((with_reducible refine(HM.o _).mono ?_);rintro e w5 ⟨rfl,rfl⟩);go_wp2_with fail;refine hK.o _ _ (hY) ?_;clear hY hK K;intro hY;iterate 5 (refine aI rfl (by rfl) (by intro w hSw;(try dsimp only at hSw);obtain⟨e0,e1,e2,e3,e4,e5⟩:=six6 hSw;go_simp;(try(first |with_reducible rfl|rfl))) ?_;(try simp only[aK,aA,aD,aF]))
    refine fO (bF ?_);obtain⟨e0,e1,e2,e3,e4,e5⟩:=six6 hY;go_wp2_with fail
    (first |rw[decide_eq_false (show ¬lo<=9223372036854775808 by omega)]|rw[decide_eq_false (show ¬lo<=9223372036854775807 by omega)]|skip);(with_reducible refine(snumber_no _ _).mono ?_)
    rintro e w1 ⟨rfl,hb1⟩;go_wp2;exact⟨rfl,rfl,HB0.o.call (HWD.o.call hb1)⟩
  ·by_cases p2:n'<0
   ·have h1:¬lo<=9223372036854775808:=by omega
    clear hl;have q1:decide (n<0)=false:=decide_eq_false p1;have q2:decide (n'<0)=true:=decide_eq_true p2;go_enter Tryz.func155,Tryz.ntmps155;go_wp2_with fail;refine wp_region_noPanic (bM (fun B=>B.heap[w.heap.size]?=some (.cells #[.int .i64 k,.int .i64 n,S s,.int .i64 k',.int .i64 n',S s'] 162 (0,0))) ((.take 0 (.take 1 (.take 2 (.take 3 (.take 5 (.take 6 (.take 7 (.take 8 (.one 4 (.one 9 (.one 10 (.take 11 (.take 12 (.take 13 (.take 14 (.take 15 .done))))))))))))))))) (by kernel_rfl) (by kernel_rfl) (by kernel_rfl) (fun _ _ _ _ _ h=>h) (HX0.o) ?_);intro wd HWD hY;iterate 8 (refine aI rfl (by rfl) (by intro w hSw;(try dsimp only at hSw);obtain⟨e0,e1,e2,e3,e4,e5⟩:=six6 hSw;go_simp;(try(first |with_reducible rfl|rfl))) ?_;(try simp only[aK,aA,aD,aF]))
    refine aL rfl (fun K hK=>?_);go_simp;((with_reducible refine(HA.o _).mono ?_);rintro e w3 ⟨rfl,rfl⟩);go_wp2_with fail;refine hK.o _ _ (hY) ?_;clear hY hK K;intro hY;refine aL rfl (fun K hK=>?_);go_simp;((with_reducible refine(HC.o _).mono ?_);rintro e w4 ⟨rfl,rfl⟩);go_wp2_with fail;refine hK.o _ _ (hY) ?_;clear hY hK K;intro hY;refine aL rfl (fun K hK=>?_);go_simp;((with_reducible refine(HM.o _).mono ?_);rintro e w5 ⟨rfl,rfl⟩);go_wp2_with fail;refine hK.o _ _ (hY) ?_;clear hY hK K;intro hY;iterate 5 (refine aI rfl (by rfl) (by intro w hSw;(try dsimp only at hSw);obtain⟨e0,e1,e2,e3,e4,e5⟩:=six6 hSw;go_simp;(try(first |with_reducible rfl|rfl))) ?_;(try simp only[aK,aA,aD,aF]))
    refine fO (bF ?_);obtain⟨e0,e1,e2,e3,e4,e5⟩:=six6 hY;go_wp2_with fail
    (first |rw[decide_eq_false (show ¬lo<=9223372036854775808 by omega)]|rw[decide_eq_false (show ¬lo<=9223372036854775807 by omega)]|skip);(with_reducible refine(snumber_no _ _).mono ?_)
    rintro e w1 ⟨rfl,hb1⟩;go_wp2;exact⟨rfl,rfl,HB0.o.call (HWD.o.call hb1)⟩
   ·have h1:¬lo<=9223372036854775807:=by omega
    clear hl;have q1:decide (n<0)=false:=decide_eq_false p1;have q2:decide (n'<0)=false:=decide_eq_false p2;go_enter Tryz.func155,Tryz.ntmps155;go_wp2_with fail;refine wp_region_noPanic (bM (fun B=>B.heap[w.heap.size]?=some (.cells #[.int .i64 k,.int .i64 n,S s,.int .i64 k',.int .i64 n',S s'] 162 (0,0))) ((.take 0 (.take 1 (.take 2 (.take 3 (.take 5 (.take 6 (.take 7 (.take 8 (.one 4 (.one 9 (.one 10 (.take 11 (.take 12 (.take 13 (.take 14 (.take 15 .done))))))))))))))))) (by kernel_rfl) (by kernel_rfl) (by kernel_rfl) (fun _ _ _ _ _ h=>h) (HX0.o) ?_);intro wd HWD hY;iterate 8 (refine aI rfl (by rfl) (by intro w hSw;(try dsimp only at hSw);obtain⟨e0,e1,e2,e3,e4,e5⟩:=six6 hSw;go_simp;(try(first |with_reducible rfl|rfl))) ?_;(try simp only[aK,aA,aD,aF]))
    refine aL rfl (fun K hK=>?_);go_simp;((with_reducible refine(HA.o _).mono ?_);rintro e w3 ⟨rfl,rfl⟩);go_wp2_with fail;refine hK.o _ _ (hY) ?_;clear hY hK K;intro hY;refine aL rfl (fun K hK=>?_);go_simp;((with_reducible refine(HC.o _).mono ?_);rintro e w4 ⟨rfl,rfl⟩);go_wp2_with fail;refine hK.o _ _ (hY) ?_;clear hY hK K;intro hY;refine aL rfl (fun K hK=>?_);go_simp;((with_reducible refine(HM.o _).mono ?_);rintro e w5 ⟨rfl,rfl⟩);go_wp2_with fail;refine hK.o _ _ (hY) ?_;clear hY hK K;intro hY;iterate 5 (refine aI rfl (by rfl) (by intro w hSw;(try dsimp only at hSw);obtain⟨e0,e1,e2,e3,e4,e5⟩:=six6 hSw;go_simp;(try(first |with_reducible rfl|rfl))) ?_;(try simp only[aK,aA,aD,aF]))
    refine fO (bF ?_);obtain⟨e0,e1,e2,e3,e4,e5⟩:=six6 hY;go_wp2_with fail
    (first |rw[decide_eq_false (show ¬lo<=9223372036854775808 by omega)]|rw[decide_eq_false (show ¬lo<=9223372036854775807 by omega)]|skip);(with_reducible refine(snumber_no _ _).mono ?_)
    rintro e w1 ⟨rfl,hb1⟩;go_wp2;exact⟨rfl,rfl,HB0.o.call (HWD.o.call hb1)⟩
theorem spmul_any(k n:Int)(s:List UInt8)(k' n':Int)(s':List UInt8)(ha0: -9223372036854775808<=n)(ha1:n<=9223372036854775807)(hb0: -9223372036854775808<=n')(hb1:n'<=9223372036854775807)(w:World):
  Calls Tryz.prog 155 #[PV k n s k' n' s'] w fun e w'=>e=resV (numV (n * n'))/\Bl w w':=by
 have hm:=fun w=>Tryz.bits_Mul64 n.natAbs n'.natAbs (by omega) (by omega) w;have hsz:=mul_sizes n n';have hd:(decide (n<0) != decide (n'<0))=true↔¬(n<0↔n'<0):=by
  by_cases h1:n<0<;>by_cases h2:n'<0<;>simp[h1,h2]
 generalize n.natAbs * n'.natAbs=P at *;cases hf:fits64 (n * n')
 ·rw[numV_off hf];rw[hf,decide_eq_false_iff_not] at hsz;refine spmul_no k n s k' n' s' ha0 ha1 hb0 hb1 w _ _ (aB hm) ?_;by_cases hP:P<18446744073709551616
  ·refine .inr ⟨by rw[Nat.div_eq_of_lt hP];rfl,?_⟩;rw[Nat.mod_eq_of_lt hP];by_cases h:(n<0↔n'<0)
   ·rw[if_neg (fun e=>hd.1 e h)] at hsz;exact .inr ⟨by omega,h⟩
   ·rw[if_pos (hd.2 h)] at hsz;exact .inl (by omega)
  ·refine .inl ?_;have:1<=P / 18446744073709551616:=(Nat.le_div_iff_mul_le (by decide)).2 (by omega);omega
 ·rw[numV_fit hf];have hw:=wrap_fit hf;rw[hf,decide_eq_true_eq] at hsz;have hP:P<18446744073709551616:=by
   split at hsz<;>omega
  have HM:=aB hm;rw[Nat.div_eq_of_lt hP,Nat.mod_eq_of_lt hP] at HM;refine spmul_yes k n s k' n' s' ha0 ha1 hb0 hb1 w P HM hw ?_;by_cases h:(n<0↔n'<0)
  ·rw[if_neg (fun e=>hd.1 e h)] at hsz;exact .inl (by omega)
  ·rw[if_pos (hd.2 h)] at hsz;exact .inr ⟨by omega,h⟩
end
section
def restO(o:Int)(a b:Vl)(nul:Bool):Vl×Int:=
 if o=13 then(kVl (d2d (knVl a) (knVl b)),0)
 else if o=14 then(kVl (or2 (knVl a) (knVl b)),0)
 else if o=17\/o=18 then(tVl (decide (a.1=0)==decide (o=17)),0)
 else if nul then(zVl,0)
 else if o=16 then(kVl (c9p (knVl a)),0)
 else if o=6 then(if 1000<a.2.2.length+b.2.2.length then(zVl,3) else((a.1,0,a.2.2++b.2.2),0))
 else if o=19 then((2,(a.2.2.length:Int),[]),0)
 else if 7<=o/\o<=12 then(tVl (truthO o (ordVl a b)),0)
 else wholeO o a.2.1 b.2.1
theorem many_pos{o:Int}(h:1<=o/\o<=20):0<fJ o:=by
 rcases twenty h with rfl|rfl|rfl|rfl|rfl|rfl|rfl|rfl|rfl|rfl|rfl|rfl|rfl|rfl|rfl|rfl|rfl|rfl|rfl|rfl<;>decide
theorem opMany_le(o:Int):fJ o<=2:=by
 unfold fJ;split
 ·omega
 ·split<;>omega
theorem headD_at{l:List Vl}(h:0<l.length):l.headD zVl=l[0]:=by
 cases l with
 |nil=>cases h
 |cons x r=>rfl
theorem lastD_at{l:List Vl}(h:l.length-1<l.length):l.getLastD zVl=l[l.length-1]:=by
 rw[List.getLastD_eq_getLast?,List.getLast?_eq_getElem?,aP h,oQ]
theorem any_null(l:List Vl):(l.any fun v=>v.1==0)= !(l.all fun v=>v.1 != 0):=by
 induction l with
 |nil=>rfl
 |cons x r ih=>rw[List.any_cons,List.all_cons,ih,Bool.not_and,bne,Bool.not_not]
def restT(o:Int)(a b:Vl)(nul:Bool):Vl×Int:=
 if nul then(zVl,0)
 else if o=16 then(kVl (c9p (knVl a)),0)
 else if o=6 then(if 1000<a.2.2.length+b.2.2.length then(zVl,3) else((a.1,0,a.2.2++b.2.2),0))
 else if o=19 then((2,(a.2.2.length:Int),[]),0)
 else if 7<=o/\o<=12 then(tVl (truthO o (ordVl a b)),0)
 else wholeO o a.2.1 b.2.1
theorem rest_tail{o:Int}{a b:Vl}{nul:Bool}(h1:o≠13)(h2:o≠14)(h3:o≠17)(h4:o≠18):restO o a b nul=restT o a b nul:=by
 unfold restO;rw[if_neg h1,if_neg h2,if_neg (by omega)];rfl
theorem known_three{o:Int}{v:Vl}(h:okVl v=true)(hf:offT o v.1=false)(ho:o=13\/o=14\/o=16):knVl v=0\/knVl v=1\/knVl v=2:=by
 have hk:v.1=0\/v.1=1:=by
  unfold offT at hf;rw[Bool.or_eq_false_iff] at hf;have h1:=hf.1;have h2:ofO o=1:=by rcases ho with rfl|rfl|rfl<;>rfl
  rw[h2] at h1;simp only[Bool.and_eq_false_iff,decide_eq_false_iff_not] at h1;omega
 rw[okVl_iff] at h;unfold knVl d1d;rw[if_neg (fun e=>e h)];unfold chk at h;rcases hk with hk|hk
 ·rw[if_pos hk];exact .inr (.inr rfl)
 ·rw[if_neg (by omega),if_pos hk];split at h
  ·cases h
  ·split at h
   ·rename_i h3;rcases h3 with h3|h3|h3|h3|h3<;>omega
   ·cases h
theorem six_bl{A B:World}(hb:Bl A B){p0 p1 p2 p3 p4 p5:Addr}{x0 x1 x2 x3 x4 x5:Value}(h:(A.cell? p0=some x0/\A.cell? p1=some x1/\A.cell? p2=some x2)/\A.cell? p3=some x3/\A.cell? p4=some x4/\A.cell? p5=some x5):
  (B.cell? p0=some x0/\B.cell? p1=some x1/\B.cell? p2=some x2)/\B.cell? p3=some x3/\B.cell? p4=some x4/\B.cell? p5=some x5:=
 ⟨⟨Bl.cell hb h.1.1,Bl.cell hb h.1.2.1,Bl.cell hb h.1.2.2⟩,Bl.cell hb h.2.1,Bl.cell hb h.2.2.1,Bl.cell hb h.2.2.2⟩
theorem resV_ways(v:Vl)(c:Int):(c=0/\resV (v,c)= .returned (VlV v))\/(c≠0/\resV (v,c)=panE c):=by
 by_cases h:c=0
 ·exact .inl ⟨h,by unfold resV;rw[if_pos h]⟩
 ·exact .inr ⟨h,by unfold resV;rw[if_neg h]⟩
theorem num_err{n:Int}(h:(numV n).2≠0):(numV n).1=zVl:=by
 unfold numV at h⊢;split at h
 ·exact absurd rfl h
 ·rename_i hf;rw[if_neg hf];rfl
theorem rest_err{o:Int}{a b:Vl}(h:(restT o a b false).2≠0):(restT o a b false).1=zVl:=by
 unfold restT at h⊢;rw[if_neg (by decide)] at h⊢;by_cases h16:o=16
 ·rw[if_pos h16] at h;exact absurd rfl h
 rw[if_neg h16] at h⊢;by_cases h6:o=6
 ·rw[if_pos h6] at h⊢;split at h
  ·rename_i hl;rw[if_pos hl]
  ·exact absurd rfl h
 rw[if_neg h6] at h⊢;by_cases h19:o=19
 ·rw[if_pos h19] at h;exact absurd rfl h
 rw[if_neg h19] at h⊢;by_cases h7:7<=o/\o<=12
 ·rw[if_pos h7] at h;exact absurd rfl h
 rw[if_neg h7] at h⊢;unfold wholeO at h⊢;by_cases h1:o=1
 ·rw[if_pos h1] at h⊢;exact num_err h
 rw[if_neg h1] at h⊢;by_cases h2:o=2
 ·rw[if_pos h2] at h⊢;exact num_err h
 rw[if_neg h2] at h⊢;by_cases h3:o=3
 ·rw[if_pos h3] at h⊢;exact num_err h
 rw[if_neg h3] at h⊢;by_cases h4:o=4
 ·rw[if_pos h4] at h⊢;split at h
  ·rename_i hz;rw[if_pos hz];rfl
  ·rename_i hz;rw[if_neg hz];exact num_err h
 rw[if_neg h4] at h⊢;by_cases h5:o=5
 ·rw[if_pos h5] at h⊢;split at h
  ·rename_i hz;rw[if_pos hz];rfl
  ·rename_i hz;rw[if_neg hz];exact num_err h
 rw[if_neg h5] at h⊢;by_cases h20:o=20/\0<=a.2.1
 ·rw[if_pos h20] at h;exact absurd rfl h
 rw[if_neg h20] at h⊢;exact num_err h
theorem int_shape{v1 v2:Int}{v3:List UInt8}(h:okVl (v1,v2,v3)=true)(hk:v1=2):v3=[]:=by
 rw[okVl_iff] at h;unfold chk at h;split at h
 ·cases h
 ·split at h
  ·rename_i h3;rcases h3 with h3|h3|h3|h3|h3
   ·exact h3.2.2
   ·exact h3.2.2
   ·exact h3.2
   ·have:=h3.1;simp only at this;omega
   ·have:=h3.1;simp only at this;omega
  ·cases h
theorem text_short{v:Vl}(h:okVl v=true):v.2.2.length<=1000:=by
 rw[okVl_iff] at h;unfold chk at h;split at h
 ·cases h
 ·omega
theorem enters_spadd(args:Array Value)(w:World):(callFunc 153 args).run Tryz.prog w= .ok (.enter 153 args) w:=by simp[go_sem]
theorem enters_spsub(args:Array Value)(w:World):(callFunc 154 args).run Tryz.prog w= .ok (.enter 154 args) w:=by simp[go_sem]
theorem enters_spmul(args:Array Value)(w:World):(callFunc 155 args).run Tryz.prog w= .ok (.enter 155 args) w:=by simp[go_sem]
theorem enters_spdiv(args:Array Value)(w:World):(callFunc 156 args).run Tryz.prog w= .ok (.enter 156 args) w:=by simp[go_sem]
theorem enters_spmod(args:Array Value)(w:World):(callFunc 157 args).run Tryz.prog w= .ok (.enter 157 args) w:=by simp[go_sem]
theorem enters_spneg(args:Array Value)(w:World):(callFunc 158 args).run Tryz.prog w= .ok (.enter 158 args) w:=by simp[go_sem]
theorem enters_spabs(args:Array Value)(w:World):(callFunc 159 args).run Tryz.prog w= .ok (.enter 159 args) w:=by simp[go_sem]
theorem enters_spcat(args:Array Value)(w:World):(callFunc 160 args).run Tryz.prog w= .ok (.enter 160 args) w:=by simp[go_sem]
theorem enters_splength(args:Array Value)(w:World):(callFunc 161 args).run Tryz.prog w= .ok (.enter 161 args) w:=by simp[go_sem]
theorem does_fun{o a1 a3 b1 b3:Int}{a4 b4:List UInt8}(ha:I64 a3)(hb:I64 b3)(hoa:okVl (a1,a3,a4)=true)(hob:okVl (b1,b3,b4)=true)(hf:offT o a1=false)(hn:a1≠0)(ho:1<=o/\o<=20)(h13:¬(o=13\/o=14))(h17:¬(o=17\/o=18))(h16:o≠16)(h7:¬(7<=o/\o<=12)):
  ∃g:FuncId,(∀(w:World) (r:Nat),w.heap[r]?=some (.map doesAll 9)->(Instr.lookup 169 (.map (some r)) (.int .i64 o) false).run Tryz.prog w= .ok (.func (.func g) #[] #[]) w)/\
   (∀(args:Array Value) (w:World),(callFunc g args).run Tryz.prog w= .ok (.enter g args) w)/\∀w,Calls Tryz.prog g #[PV a1 a3 a4 b1 b3 b4] w fun e w'=>e=resV (restT o (a1,a3,a4) (b1,b3,b4) false)/\Bl w w':=by
 have hw:o=1\/o=2\/o=3\/o=4\/o=5\/o=6\/o=15\/o=19\/o=20:=(by omega);rcases hw with rfl|rfl|rfl|rfl|rfl|rfl|rfl|rfl|rfl
 ·exact⟨_,fun w r h=>does_at1 h,enters_spadd,fun w=>spadd_any a1 a3 a4 b1 b3 b4 ha.1 ha.2 hb.1 hb.2 w⟩
 ·exact⟨_,fun w r h=>does_at2 h,enters_spsub,fun w=>spsub_any a1 a3 a4 b1 b3 b4 ha.1 ha.2 hb.1 hb.2 w⟩
 ·exact⟨_,fun w r h=>does_at3 h,enters_spmul,fun w=>spmul_any a1 a3 a4 b1 b3 b4 ha.1 ha.2 hb.1 hb.2 w⟩
 ·refine⟨_,fun w r h=>does_at4 h,enters_spdiv,fun w=>?_⟩;have e:resV (restT 4 (a1,a3,a4) (b1,b3,b4) false)=if b3=0 then panE 121 else resV (numV (a3.tdiv b3)):=by
   show resV (if b3=0 then((0,0,[]),121) else numV (a3.tdiv b3))=_;split<;>rfl
  rw[e];exact spdiv_any a1 a3 a4 b1 b3 b4 ha.1 ha.2 w
 ·refine⟨_,fun w r h=>does_at5 h,enters_spmod,fun w=>?_⟩;have e:resV (restT 5 (a1,a3,a4) (b1,b3,b4) false)=if b3=0 then panE 121 else resV (numV (a3.tmod b3)):=by
   show resV (if b3=0 then((0,0,[]),121) else numV (a3.tmod b3))=_;split<;>rfl
  rw[e];exact spmod_any a1 a3 a4 b1 b3 b4 ha.1 ha.2 w
 ·refine⟨_,fun w r h=>does_at6 h,enters_spcat,fun w=>?_⟩;have e:resV (restT 6 (a1,a3,a4) (b1,b3,b4) false)=if 1000<a4.length+b4.length then panE 3 else .returned (V a1 0 (a4++b4)):=by
   show resV (if 1000<a4.length+b4.length then(zVl,3) else((a1,0,a4++b4),0))=_;split<;>rfl
  rw[e];exact spcat_any a1 a3 a4 b1 b3 b4 (text_short hoa) (text_short hob) w
 ·exact⟨_,fun w r h=>does_at15 h,enters_spneg,fun w=>spneg_any a1 a3 a4 b1 b3 b4 ha.1 ha.2 w⟩
 ·exact⟨_,fun w r h=>does_at19 h,enters_splength,fun w=>splength_any a1 a3 a4 b1 b3 b4 w⟩
 ·refine⟨_,fun w r h=>does_at20 h,enters_spabs,fun w=>?_⟩;have hk:a1=2:=by
   unfold offT at hf;rw[Bool.or_eq_false_iff] at hf;have h1:=hf.1;simp only[show ofO 20=2 from rfl,Bool.and_eq_false_iff,decide_eq_false_iff_not] at h1;omega
  have ht:=int_shape hoa hk;subst hk;subst ht;have e:resV (restT 20 (2,a3,[]) (b1,b3,b4) false)=if 0<=a3 then .returned (V 2 a3 []) else resV (numV (-a3)):=by
   show resV (if(20:Int)=20/\0<=a3 then((2,a3,[]),0) else numV (-a3))=_;by_cases h0:0<=a3
   ·rw[if_pos ⟨rfl,h0⟩,if_pos h0];rfl
   ·rw[if_neg (fun h=>h0 h.2),if_neg h0]
  rw[e];exact spabs_any 2 a3 [] b1 b3 b4 ha.1 ha.2 w
theorem doO_bad{o:Int}{l:List Vl}(h:l.all okVl=false):doO o l=(zVl,2):=by unfold doO;rw[if_pos h]
theorem doO_typ{o:Int}{l:List Vl}(h:l.all okVl=true)(h2:(makesO o (l.map (·.1))).2≠0):doO o l=(zVl,(makesO o (l.map (·.1))).2):=by
 unfold doO;rw[if_neg (by rw[h];decide),if_pos h2]
theorem doO_rest{o:Int}{l:List Vl}(h:l.all okVl=true)(h2:(makesO o (l.map (·.1))).2=0):doO o l=restO o (l.headD zVl) (l.getLastD zVl) (l.any fun v=>v.1==0):=by
 unfold doO;rw[if_neg (by rw[h];decide),if_neg (fun e=>e h2)];rfl
theorem sDo2_any(v1 v2:Int)(v3:List UInt8)(w:World):Calls Tryz.prog 122 #[V v1 v2 v3] w fun e w'=>e= .returned (.bool (okVl (v1,v2,v3)))/\Bl w w':=by
 go_enter Tryz.func122,Tryz.ntmps122;go_wp2_with fail;refine(b7z v1 v2 v3 _).mono ?_;rintro e w1 ⟨rfl,hb1⟩;go_wp2;go_ret;exact⟨rfl,((Bl.refl w).alloc _).call hb1⟩
theorem enters_sDo2(args:Array Value)(w:World):(callFunc 122 args).run Tryz.prog w= .ok (.enter 122 args) w:=by simp[go_sem]
theorem sDo1_any(b:Nat)(x0 x1 x2:Value)(w:World)(h:w.heap[b]?=some (.cells #[x0,x1,x2] 26 (0,0))):Calls Tryz.prog 119 #[.pointer (some ⟨b,0,none⟩)] w fun e w'=>e= .returned (.tuple #[])/\(But b w w'/\w'.heap[b]?=some (.cells (cells3 zVl).toArray 26 (0,0))):=by
 go_enter Tryz.func119,Tryz.ntmps119;go_wp2_with (refine bA (old:=[x0,x1,x2]) rfl rfl rfl rfl (cells3 zVl) h rfl rfl vlInfo rfl ?_)
 intro w9 hB9 hX9;go_wp2;go_end0;exact⟨rfl,hB9,hX9⟩
theorem enters_sDo1(args:Array Value)(w:World):(callFunc 119 args).run Tryz.prog w= .ok (.enter 119 args) w:=by simp[go_sem]
structure DoF(W A:World):Prop where
 v:A.heap[W.heap.size]?=some (.cells #[.int .i64 0,.int .i64 0,S []] 26 (0,0))
 e:A.heap[W.heap.size+1]?=some (.cells #[.int .i64 0] 37 (0,0))
 bl:Bl W A
theorem DoF.call{W A B:World}(h:DoF W A)(hb:Bl A B):DoF W B:=⟨keep_b h.v hb,keep_b h.e hb,h.bl.call hb⟩
theorem DoF.alloc{W A:World}(h:DoF W A)(o:Obj):DoF W (A.alloc o):=h.call ((Bl.refl A).alloc o)
theorem DoF.grown{W A B:World}(h:DoF W A){q:Option Nat}(hg:A.grownBy B q)(hq:∀i,q=some i->W.heap.size+2<=i):DoF W B:=
 ⟨(hg.block _ (aC.1 h.v).1 (fun e=>by have:=hq _ e.symm;omega)).trans h.v,(hg.block _ (aC.1 h.e).1 (fun e=>by have:=hq _ e.symm;omega)).trans h.e,iL h.bl hg h.bl.size (fun i hi=>by have:=hq i hi;omega)⟩
theorem DoF.start(W:World):DoF W ((W.alloc (.cells #[.int .i64 0,.int .i64 0,S []] 26)).alloc (.cells #[.int .i64 0] 37)):=
 ⟨keep_b (aN W _) ((Bl.refl _).alloc _),aV _ _ (by simp),((Bl.refl W).alloc _).alloc _⟩
theorem sDo_res(a:Act)(d:Nat)(v:Value)(hd:8<=d)(w:World):(results Tryz.f95 (a.put (some d) v).tmps).run Tryz.prog w=(results Tryz.f95 a.tmps).run Tryz.prog w:=by
 have e:∀i,i<8->(a.tmps.setIfInBounds d v)[i]?=a.tmps[i]?:=fun i hi=>(by rw[Array.getElem?_setIfInBounds_ne (by omega)]);simp[results,Tryz.results95,aK,e]
theorem sDo_put(R:Ending->World->Prop)(c:_)(a:Act)(d:Nat)(v:Value)(w:World)(hd:8<=d)(h:Leaves Tryz.prog Tryz.f95 (a.put (some d) v).tmps R (a.put (some d) v).defers (.panicking c) w):Leaves Tryz.prog Tryz.f95 a.tmps R a.defers (.panicking c) w:=by
 rw[a1d (sDo_res a d v hd)] at h;exact h
theorem sDo_any(o:Int)(l:List Vl)(a:Option Addr)(cap:Nat)(hfew:l.length<=1000000)(hI:∀v∈l,I64 v.2.1)(W:World)(hv:ReadsVl (fun _=>True) W (.slice a l.length cap) l):
  Calls Tryz.prog 95 #[.int .i64 o,.slice a l.length cap] W fun e w'=>e= .returned (.tuple #[VlV (doO o l).1,.int .i64 (doO o l).2])/\Bl W w':=by
 obtain⟨Z,HZ⟩:∃Z,Hid (doO o l=Z):=⟨_,rfl⟩
 rw[HZ.o];have HA:Hid (∀w,Bl W w->Calls Tryz.prog 121 #[.slice a l.length cap,.func (.func 122) #[] #[]] w fun e w'=>e= .returned (.bool (l.all okVl))/\Bl w w'):=fun w hb=>
  sallV_any 122 #[] okVl a cap l hfew w enters_sDo2 (fun x W' _=>sDo2_any x.1 x.2.1 x.2.2 W') (vlsL_of (hv.bl hb))
 have HF0:=aB (DoF.start W);have HI:=aB hI;obtain⟨a',cap',e,hc⟩:=hv.shape;obtain⟨rfl,rfl⟩:a=a'/\cap=cap':=(by simpa using e);have HC:=aB hc;have HV:=aB hv;clear hc hv hI e;cases hok:l.all okVl
 case false=>
  rw[hok] at HA;have HZ2:=aB (show Z=(zVl,2) from HZ.o.symm.trans (doO_bad hok));clear HZ hok;have HZ:=HZ2
  go_enter_defers Tryz.func95,Tryz.ntmps95
  go_wp2_with fail;refine(HA.o _ HF0.o.bl).mono ?_;rintro e w1 ⟨rfl,hb1⟩;have HF1:=aB (HF0.o.call hb1);clear hb1;go_wp2_with fail
  (with_reducible refine(smust_no _ _).mono ?_)
  rintro e w2 ⟨rfl,rfl⟩;have c1:=cK (HF1.o).e;have z1:=aJ (HF1.o).e 0;go_wp2_with fail;refine leaves_cons (f:=114) (args:= #[.pointer (some ⟨W.heap.size+1,0,none⟩),.func (.func 119) #[] #[.pointer (some ⟨W.heap.size,0,none⟩)]]) (by simp) (by simp[go_sem]) ?_;refine(scaught_panic ⟨W.heap.size+1,0,none⟩ 0 (2) 119 #[] #[.pointer (some ⟨W.heap.size,0,none⟩)] #[.pointer (some ⟨W.heap.size,0,none⟩)] (by simp) _ _ c1 z1 enters_sDo1 (sDo1_any W.heap.size _ _ _ _ (set1_other (HF1.o).v (b:=W.heap.size+1) (by omega) 0 (.int .i64 (2))))).mono ?_;rintro e u' w'' ⟨rfl,rfl,hB9,hX9⟩;obtain⟨r0,r1,r2⟩:=three3 hX9;have r3:=cK ((hB9.same (W.heap.size+1) (by omega)).trans (lN (HF1.o).e 0 (.int .i64 (2))));refine⟨.tuple #[VlV zVl,.int .i64 (2)],by simp[results,Tryz.results95,go_sem,r0,r1,r2,r3],by rw[HZ.o],hB9.bl ((HF1.o).bl.set (p:=⟨W.heap.size+1,0,none⟩) (by show W.heap.size<=W.heap.size+1;omega) _) (aH _)⟩
 rw[hok] at HA;have HOKK:=aB hok;clear hok;have HTY:Hid (∀(w:World) (a2:Option Addr) (c2:Nat),Ints w.heap.size w (.slice a2 l.length c2) (l.map (·.1))->Calls Tryz.prog 116 #[.int .i64 o,.slice a2 l.length c2] w fun e w'=>e=resT ((makesO o (l.map (·.1))).1,(makesO o (l.map (·.1))).2)/\Bl w w'):=fun w a2 c2 hI=>by
  have h:=styped_any o (l.map (·.1)) a2 c2 (by simpa using hfew) w (by rw[mD];exact hI);rw[mD] at h;exact h
 have HRS:=aB (fun h=>doO_rest (o:=o) HOKK.o h);have HTB:=aB (fun h=>doO_typ (o:=o) HOKK.o h)
 go_enter_defers Tryz.func95,Tryz.ntmps95
 go_wp2_with fail;refine(HA.o _ HF0.o.bl).mono ?_;rintro e w1 ⟨rfl,hb1⟩;have HF1:=aB (HF0.o.call hb1);clear hb1;go_wp2_with fail
 (with_reducible refine(smust_yes _ _).mono ?_)
 rintro e w2 ⟨rfl,rfl⟩;go_wp2_with fail;go_loopw [6,7,17] (fun ts fl i wr=>∃(j:Nat) (v0:Value),v0=ts/\fl= .bool ((l.take j).all fun v=>v.1 != 0)/\j<=l.length/\i= .int .i64 (j:Int)/\Hid (wr.ownsRow (W.heap.size+2) 23 1 v0 j (((l.map (·.1)).take j).flatMap fun t=>[.int .i64 t]))/\Hid (DoF W wr)) (fun _ _ i _=>l.length-(intOf i).toNat)
 case atStart=>exact⟨0,_,rfl,rfl,dL _,rfl,d2l _ _ _ _,HF1.o⟩
 case round=>
  obtain⟨j,v0,rfl,rfl,hj,rfl,HO,HF⟩:=hrel;by_cases hlt:j<l.length
  ·obtain⟨b,off,rfl,-,hbl,h3⟩:=HC.o j hlt;have HSN:=aB (show((l.map (·.1)).take (j+1)).flatMap (fun t=>[Value.int .i64 t])=((l.map (·.1)).take j).flatMap (fun t=>[Value.int .i64 t])++[.int .i64 l[j].1] from by
    rw[takeD_snoc (l.map (·.1)) (by simpa using hlt),List.flatMap_append,List.getElem_map];rfl)
   have HFL:=aB (show(l.take (j+1)).all (fun v=>v.1 != 0)=((l.take j).all (fun v=>v.1 != 0)&&(l[j].1 != 0)) from by
    rw[takeD_snoc l hlt,List.all_append];simp)
   obtain⟨e0,e1,e2⟩:=(h3.keep (HF.o.bl.block b hbl)).three;generalize l[j]=y at *;obtain⟨y1,y2,y3⟩:=y;simp only at e0 e1 e2 HSN HFL;generalize (l.take j).all (fun v=>v.1 != 0)=fl at *;have hlt':(j:Int)<(l.length:Int):=(by omega);clear h3;have HO5:=aB (gY (((Bl.refl wr).alloc (.cells #[.int .i64 y1,.int .i64 y2,S y3] 26)).alloc (.cells #[.int .i64 y1] 23)) HO.o);have HN5:=aB (aV (wr.alloc (.cells #[.int .i64 y1,.int .i64 y2,S y3] 26)) (.cells #[.int .i64 y1] 23) (k:=wr.heap.size+1) (by simp));have hz5:W.heap.size+2<=((wr.alloc (.cells #[.int .i64 y1,.int .i64 y2,S y3] 26)).alloc (.cells #[.int .i64 y1] 23)).heap.size:=by
    have:=(aC.1 HF.o.e).1;simp;omega
   go_wp2_with (at_builtin;refine wpList_append_row rfl (.tmp 21) (.tmp 24) rfl tyFull Tryz.underlying137 rfl (by decide) (by decide) (W.heap.size+2) _ j _ rfl HO5.o (wr.heap.size+1) [.int .i64 y1] rfl HN5.o rfl rfl (by omega) hz5 ?_)
   intro v' w2 hown2 hg2 _;have hlow:=HO.o.lt;have HF2:=aB (((HF.o.alloc (.cells #[.int .i64 y1,.int .i64 y2,S y3] 26)).alloc (.cells #[.int .i64 y1] 23)).grown hg2 (fun i hi=>(hlow i hi).1));have HO2:=aB hown2;have hX2:=(hg2.block wr.heap.size (by simp;omega) (fun e=>by have:=(hlow _ e.symm).2;omega)).trans (keep_b (aN wr (.cells #[.int .i64 y1,.int .i64 y2,S y3] 26)) ((Bl.refl _).alloc (.cells #[.int .i64 y1] 23)));obtain⟨f0,f1,f2⟩:=three3 hX2;clear hown2 hg2 hlow e0 e1 e2 hX2;cases fl
   ·go_wp2;go_roundw
    case rel=>exact⟨j+1,_,rfl,by rw[HFL.o];rfl,by omega,by go_num,by rw[HSN.o];exact HO2.o,HF2.o⟩
    case measure=>simp[intOf];omega
   ·go_wp2;go_roundw
    case rel=>exact⟨j+1,_,rfl,by rw[HFL.o];rfl,by omega,by go_num,by rw[HSN.o];exact HO2.o,HF2.o⟩
    case measure=>simp[intOf];omega
  ·obtain rfl:j=l.length:=by omega
   have HIN:Hid (Ints wr.heap.size wr v0 (l.map (·.1))):=by
    have h:=HO.o;rw[jS (by simp)] at h;exact own_ints (by rw[mD];exact h)
   have HS:Hid (∃a2 c2,v0= .slice a2 l.length c2):=by
    rcases HO.o.2 with⟨h,h0⟩|⟨g,c,cur,e,-⟩
    ·exact⟨none,0,by rw[h,h0]⟩
    ·exact⟨_,c,e⟩
   obtain⟨a2,c2,hs⟩:=HS.o;subst hs;rw[gJ];have hge:¬((l.length:Int)<(l.length:Int)):=(by omega);have HMK:=aB (show makesO o (l.map (·.1))=((makesO o (l.map (·.1))).1,(makesO o (l.map (·.1))).2) from rfl);generalize (makesO o (l.map (·.1))).1=r at *;generalize (makesO o (l.map (·.1))).2=c at *;clear HO HS HA;go_wp2_with fail;refine(HTY.o _ a2 c2 HIN.o).mono ?_;rintro e w3 ⟨he,hb3⟩;have HF3:=aB (HF.o.call hb3);rcases resT_ways r c with⟨hc,h⟩|⟨hc,h⟩
   case inr=>
    rw[h] at he;subst he;have HZ2:=aB (show Z=(zVl,c) from HZ.o.symm.trans (HTB.o hc));clear HZ h hc HTB HRS;have HZ:=HZ2;have c1:=cK (HF3.o).e;have z1:=aJ (HF3.o).e 0;go_wp2_with fail;refine leaves_cons (f:=114) (args:= #[.pointer (some ⟨W.heap.size+1,0,none⟩),.func (.func 119) #[] #[.pointer (some ⟨W.heap.size,0,none⟩)]]) (by simp) (by simp[go_sem]) ?_;refine(scaught_panic ⟨W.heap.size+1,0,none⟩ 0 (c) 119 #[] #[.pointer (some ⟨W.heap.size,0,none⟩)] #[.pointer (some ⟨W.heap.size,0,none⟩)] (by simp) _ _ c1 z1 enters_sDo1 (sDo1_any W.heap.size _ _ _ _ (set1_other (HF3.o).v (b:=W.heap.size+1) (by omega) 0 (.int .i64 (c))))).mono ?_;rintro e u' w'' ⟨rfl,rfl,hB9,hX9⟩;obtain⟨r0,r1,r2⟩:=three3 hX9;have r3:=cK ((hB9.same (W.heap.size+1) (by omega)).trans (lN (HF3.o).e 0 (.int .i64 (c))));refine⟨.tuple #[VlV zVl,.int .i64 (c)],by simp[results,Tryz.results95,go_sem,r0,r1,r2,r3],by rw[HZ.o],hB9.bl ((HF3.o).bl.set (p:=⟨W.heap.size+1,0,none⟩) (by show W.heap.size<=W.heap.size+1;omega) _) (aH _)⟩
   rw[h] at he;subst he;subst hc;have HZ2:=aB (show Z=restO o (l.headD zVl) (l.getLastD zVl) (l.any fun v=>v.1==0) from HZ.o.symm.trans (HRS.o rfl));clear HZ h HTB HRS HTY HIN hb3 HF;have HZ:=HZ2;clear HZ2;obtain⟨ho,hlen,hbt,hoff⟩:=makes_types HMK.o;rw[mD] at hlen;have hpos:0<l.length:=(by have:=many_pos ho;omega);have hlast:l.length-1<l.length:=(by omega);obtain⟨b0,off,hb0,-,hbl0,h0⟩:=HC.o 0 hpos;obtain⟨b1,off1,hb1,-,-,h1⟩:=HC.o (l.length-1) hlast;rw[hb0] at hb1;injection hb1 with hb1;injection hb1 with q1 q2 _;subst q1;subst q2;subst hb0;obtain⟨e0,e1,e2⟩:=(h0.keep (HF3.o.bl.block b0 hbl0)).three;obtain⟨f0,f1,f2⟩:=(h1.keep (HF3.o.bl.block b0 hbl0)).three;rw[Nat.zero_mul,Nat.add_zero] at e0 e1 e2;have hA:l.headD zVl=l[0]:=headD_at hpos;have hB:l.getLastD zVl=l[l.length-1]:=lastD_at hlast;rw[hA,hB,any_null] at HZ;have ma:=dS hpos;have mb:=dS hlast;have FA:=aB (bT (HI.o _ ma) (bT (all_mem HOKK.o ma) (bT (hbt _ (List.mem_map_of_mem (f:=(·.1)) ma)) (hoff _ (List.mem_map_of_mem (f:=(·.1)) ma)))));have FB:=aB (bT (HI.o _ mb) (bT (all_mem HOKK.o mb) (bT (hbt _ (List.mem_map_of_mem (f:=(·.1)) mb)) (hoff _ (List.mem_map_of_mem (f:=(·.1)) mb)))));have HMANY:=aB hlen;clear h0 h1 hA hB ma mb hbt hoff hlen HC HV HI HOKK;have HNA:=aB (fun h:(l.all fun v=>v.1 != 0)=true=>(by simpa using jA.1 h _ (dS hpos):l[0].1≠0));generalize l[0]=A at *;generalize l[l.length-1]=B at *;generalize (l.all fun v=>v.1 != 0)=nf at *;generalize makesO o (l.map (·.1))=mk at *;clear hlast;obtain⟨m,hm⟩:∃m,l.length=m+1:=⟨l.length-1,by omega⟩
   generalize l.length=n at *;subst hm;obtain⟨a1,a3,a4⟩:=A;obtain⟨b1,b3,b4⟩:=B;simp only[Nat.add_sub_cancel] at e0 e1 e2 f0 f1 f2;clear hj hlt hge hpos hfew;have HO:=aB ho;have hm1:m<=1:=by
    have h1:=HMANY.o;have h2:=opMany_le o;omega
   have hwm:IntKind.i64.wrap (m:Int)=(m:Int):=by
    simp[IntKind.wrap,IntKind.bits,IntKind.signed];omega
   have hlm:(m:Int)<(m:Int)+1:=(by omega);have hlz:(0:Int)<(m:Int)+1:=(by omega);clear ho hm1;go_wp2_with fail;refine wp_region_noPanic (bM (fun B=>(B.cell? ⟨b0,off,none⟩=some (.int .i64 a1)/\B.cell? ⟨b0,off+1,none⟩=some (.int .i64 a3)/\B.cell? ⟨b0,off+2,none⟩=some (S a4))/\B.cell? ⟨b0,off+m * 3,none⟩=some (.int .i64 b1)/\B.cell? ⟨b0,off+m * 3+1,none⟩=some (.int .i64 b3)/\B.cell? ⟨b0,off+m * 3+2,none⟩=some (S b4)) ((.take 0 (.take 1 (.take 2 (.take 3 (.take 4 (.take 5 (.take 6 (.take 7 (.take 8 (.take 9 (.take 10 (.take 11 (.one 12 (.one 13 .done))))))))))))))) (by kernel_rfl) (by kernel_rfl) (by kernel_rfl) (fun _ _ _ _ _ h=>h) (⟨⟨e0,e1,e2⟩,f0,f1,f2⟩) ?_);intro wd HWD hY;iterate 12 (refine aI rfl (by rfl) (by intro w hSw;(try dsimp only at hSw);obtain⟨⟨e0,e1,e2⟩,f0,f1,f2⟩:=hSw;go_simp;(try(first |with_reducible rfl|rfl))) ?_;(try simp only[aK,aA,aD,aF]))
   have hS0:=hY;refine aL rfl (fun K hK=>?_);go_simp;refine hK.o _ _ ((six_bl ((Bl.refl _).alloc _) hY)) ?_;clear hY hK K;intro hY;refine aL rfl (fun K hK=>?_);go_simp;refine hK.o _ _ ((six_bl ((Bl.refl wd).alloc _) hS0)) ?_;clear hY hK K;intro hY;refine fO (bF ?_);have HF4:=aB ((HF3.o.call HWD.o).alloc (.cells #[.int .i64 a1,.int .i64 a3,S a4,.int .i64 b1,.int .i64 b3,S b4,.int .i64 o] 164));have HP4:=aB (aN wd (.cells #[.int .i64 a1,.int .i64 a3,S a4,.int .i64 b1,.int .i64 b3,S b4,.int .i64 o] 164));clear hY hS0 e0 e1 e2 f0 f1 f2;obtain⟨w4,hw4⟩:∃w4,wd.alloc (.cells #[.int .i64 a1,.int .i64 a3,S a4,.int .i64 b1,.int .i64 b3,S b4,.int .i64 o] 164)=w4:=⟨_,rfl⟩
   rw[hw4] at HF4 HP4⊢;have hDD:W.heap.size+2<=wd.heap.size:=(by have:=(aC.1 (HF3.o.call HWD.o).e).1;omega);clear hw4 hwm hlm hlz HWD;generalize wd.heap.size=D at *;clear wd;obtain⟨p0,p1,p2,p3,p4,p5,p6⟩:=seven7 HP4.o;have hkA:=aB (fun h:o=13\/o=14\/o=16=>known_three FA.o.2.1 FA.o.2.2.2 h);have hkB:=aB (fun h:o=13\/o=14\/o=16=>known_three FB.o.2.1 FB.o.2.2.2 h);by_cases h17:o=17
   ·subst h17;by_cases ha:a1=0
    ·subst ha;have HZ2:=aB (show Z=(tVl true,0) from HZ.o);clear HZ;have HZ:=HZ2;go_wp2_with fail;refine(struth_any true _).mono ?_;rintro e w5 ⟨rfl,hb5⟩;have HF5:=aB (HF4.o.call hb5);go_wp2_with (refine bA rfl rfl rfl rfl (cells3 (tVl true)) (HF5.o).v rfl rfl vlInfo rfl ?_)
     intro w8 hB8 hX8;have hE8:=(hB8.same (W.heap.size+1) (by omega)).trans (HF5.o).e;have c1:=cK hE8;have z1:=aJ hE8 0;obtain⟨q0,q1,q2⟩:=three3 hX8;go_wp2_with fail;refine leaves_cons (f:=114) (args:= #[.pointer (some ⟨W.heap.size+1,0,none⟩),.func (.func 119) #[] #[.pointer (some ⟨W.heap.size,0,none⟩)]]) (by simp) (by simp[go_sem]) ?_;refine(scaught_idle _ _ _).mono ?_;rintro e u' w'' ⟨rfl,rfl,rfl⟩;obtain⟨r0,r1,r2⟩:=three3 (set1_other hX8 (b:=W.heap.size+1) (by omega) 0 (.int .i64 0));have r3:=cK (lN hE8 0 (.int .i64 0));refine⟨.tuple #[VlV (tVl true),.int .i64 0],by simp[results,Tryz.results95,go_sem,r0,r1,r2,r3],by rw[HZ.o],(hB8.bl (HF5.o).bl (aH _)).set (p:=⟨W.heap.size+1,0,none⟩) (by show W.heap.size<=W.heap.size+1;omega) _⟩
    ·have g1:(a1==0)=false:=by simpa using ha
     have HZ2:=aB (show Z=(tVl false,0) from by rw[HZ.o];unfold restO;rw[if_neg (by decide),if_neg (by decide),if_pos (.inl rfl)];simp[ha]);clear HZ ha;have HZ:=HZ2;go_wp2_with fail;refine(struth_any false _).mono ?_;rintro e w5 ⟨rfl,hb5⟩;have HF5:=aB (HF4.o.call hb5);go_wp2_with (refine bA rfl rfl rfl rfl (cells3 (tVl false)) (HF5.o).v rfl rfl vlInfo rfl ?_)
     intro w8 hB8 hX8;have hE8:=(hB8.same (W.heap.size+1) (by omega)).trans (HF5.o).e;have c1:=cK hE8;have z1:=aJ hE8 0;obtain⟨q0,q1,q2⟩:=three3 hX8;go_wp2_with fail;refine leaves_cons (f:=114) (args:= #[.pointer (some ⟨W.heap.size+1,0,none⟩),.func (.func 119) #[] #[.pointer (some ⟨W.heap.size,0,none⟩)]]) (by simp) (by simp[go_sem]) ?_;refine(scaught_idle _ _ _).mono ?_;rintro e u' w'' ⟨rfl,rfl,rfl⟩;obtain⟨r0,r1,r2⟩:=three3 (set1_other hX8 (b:=W.heap.size+1) (by omega) 0 (.int .i64 0));have r3:=cK (lN hE8 0 (.int .i64 0));refine⟨.tuple #[VlV (tVl false),.int .i64 0],by simp[results,Tryz.results95,go_sem,r0,r1,r2,r3],by rw[HZ.o],(hB8.bl (HF5.o).bl (aH _)).set (p:=⟨W.heap.size+1,0,none⟩) (by show W.heap.size<=W.heap.size+1;omega) _⟩
   have g17:(o==17)=false:=(by simpa using h17);by_cases h18:o=18
   ·subst h18;by_cases ha:a1=0
    ·subst ha;have HZ2:=aB (show Z=(tVl false,0) from HZ.o);clear HZ;have HZ:=HZ2;go_wp2_with fail;refine(struth_any false _).mono ?_;rintro e w5 ⟨rfl,hb5⟩;have HF5:=aB (HF4.o.call hb5);go_wp2_with (refine bA rfl rfl rfl rfl (cells3 (tVl false)) (HF5.o).v rfl rfl vlInfo rfl ?_)
     intro w8 hB8 hX8;have hE8:=(hB8.same (W.heap.size+1) (by omega)).trans (HF5.o).e;have c1:=cK hE8;have z1:=aJ hE8 0;obtain⟨q0,q1,q2⟩:=three3 hX8;go_wp2_with fail;refine leaves_cons (f:=114) (args:= #[.pointer (some ⟨W.heap.size+1,0,none⟩),.func (.func 119) #[] #[.pointer (some ⟨W.heap.size,0,none⟩)]]) (by simp) (by simp[go_sem]) ?_;refine(scaught_idle _ _ _).mono ?_;rintro e u' w'' ⟨rfl,rfl,rfl⟩;obtain⟨r0,r1,r2⟩:=three3 (set1_other hX8 (b:=W.heap.size+1) (by omega) 0 (.int .i64 0));have r3:=cK (lN hE8 0 (.int .i64 0));refine⟨.tuple #[VlV (tVl false),.int .i64 0],by simp[results,Tryz.results95,go_sem,r0,r1,r2,r3],by rw[HZ.o],(hB8.bl (HF5.o).bl (aH _)).set (p:=⟨W.heap.size+1,0,none⟩) (by show W.heap.size<=W.heap.size+1;omega) _⟩
    ·have g1:(a1==0)=false:=by simpa using ha
     have HZ2:=aB (show Z=(tVl true,0) from by rw[HZ.o];unfold restO;rw[if_neg (by decide),if_neg (by decide),if_pos (.inr rfl)];simp[ha]);clear HZ ha;have HZ:=HZ2;go_wp2_with fail;refine(struth_any true _).mono ?_;rintro e w5 ⟨rfl,hb5⟩;have HF5:=aB (HF4.o.call hb5);go_wp2_with (refine bA rfl rfl rfl rfl (cells3 (tVl true)) (HF5.o).v rfl rfl vlInfo rfl ?_)
     intro w8 hB8 hX8;have hE8:=(hB8.same (W.heap.size+1) (by omega)).trans (HF5.o).e;have c1:=cK hE8;have z1:=aJ hE8 0;obtain⟨q0,q1,q2⟩:=three3 hX8;go_wp2_with fail;refine leaves_cons (f:=114) (args:= #[.pointer (some ⟨W.heap.size+1,0,none⟩),.func (.func 119) #[] #[.pointer (some ⟨W.heap.size,0,none⟩)]]) (by simp) (by simp[go_sem]) ?_;refine(scaught_idle _ _ _).mono ?_;rintro e u' w'' ⟨rfl,rfl,rfl⟩;obtain⟨r0,r1,r2⟩:=three3 (set1_other hX8 (b:=W.heap.size+1) (by omega) 0 (.int .i64 0));have r3:=cK (lN hE8 0 (.int .i64 0));refine⟨.tuple #[VlV (tVl true),.int .i64 0],by simp[results,Tryz.results95,go_sem,r0,r1,r2,r3],by rw[HZ.o],(hB8.bl (HF5.o).bl (aH _)).set (p:=⟨W.heap.size+1,0,none⟩) (by show W.heap.size<=W.heap.size+1;omega) _⟩
   have g18:(o==18)=false:=(by simpa using h18);by_cases h13:o=13\/o=14
   ·have HW:Hid (∀w,Calls Tryz.prog 124 #[.int .i64 o,.int .i64 13,.int .i64 14] w fun e w'=>e= .returned (.bool true)/\w=w'):=fun w=>by
     have h:=swithin_any o 13 14 w;rw[show(decide ((13:Int)<=o)&&decide (o<=14))=true from by rcases h13 with rfl|rfl<;>decide] at h;exact h
    have HLG:Hid (∀w,Calls Tryz.prog 125 #[SV a1 a3 a4 b1 b3 b4 o] w fun e w'=>e= .returned (VlV (logicV o (knVl (a1,a3,a4)) (knVl (b1,b3,b4))))/\Bl w w'):=fun w=>splogic_any a1 a3 a4 b1 b3 b4 o FA.o.1 FB.o.1 (hkA.o (by omega)) (hkB.o (by omega)) w;have HZ2:=aB (show Z=(logicV o (knVl (a1,a3,a4)) (knVl (b1,b3,b4)),0) from by rw[HZ.o];rcases h13 with rfl|rfl<;>rfl);generalize logicV o (knVl (a1,a3,a4)) (knVl (b1,b3,b4))=lv at *;clear HZ h13 h17 h18;have HZ:=HZ2;go_wp2_with fail;refine(HW.o _).mono ?_;rintro e w5 ⟨rfl,rfl⟩;go_wp2_with fail;refine(HLG.o _).mono ?_;rintro e w5 ⟨rfl,hb5⟩;have HF5:=aB (HF4.o.call hb5);go_wp2_with (refine bA rfl rfl rfl rfl (cells3 lv) (HF5.o).v rfl rfl vlInfo rfl ?_)
    intro w8 hB8 hX8;have hE8:=(hB8.same (W.heap.size+1) (by omega)).trans (HF5.o).e;have c1:=cK hE8;have z1:=aJ hE8 0;obtain⟨q0,q1,q2⟩:=three3 hX8;go_wp2_with fail;refine leaves_cons (f:=114) (args:= #[.pointer (some ⟨W.heap.size+1,0,none⟩),.func (.func 119) #[] #[.pointer (some ⟨W.heap.size,0,none⟩)]]) (by simp) (by simp[go_sem]) ?_;refine(scaught_idle _ _ _).mono ?_;rintro e u' w'' ⟨rfl,rfl,rfl⟩;obtain⟨r0,r1,r2⟩:=three3 (set1_other hX8 (b:=W.heap.size+1) (by omega) 0 (.int .i64 0));have r3:=cK (lN hE8 0 (.int .i64 0));refine⟨.tuple #[VlV lv,.int .i64 0],by simp[results,Tryz.results95,go_sem,r0,r1,r2,r3],by rw[HZ.o],(hB8.bl (HF5.o).bl (aH _)).set (p:=⟨W.heap.size+1,0,none⟩) (by show W.heap.size<=W.heap.size+1;omega) _⟩
   have HW:Hid (∀w,Calls Tryz.prog 124 #[.int .i64 o,.int .i64 13,.int .i64 14] w fun e w'=>e= .returned (.bool false)/\w=w'):=fun w=>by
    have h:=swithin_any o 13 14 w;rw[show(decide ((13:Int)<=o)&&decide (o<=14))=false from by rw[Bool.and_eq_false_iff];simp only[decide_eq_false_iff_not];omega] at h;exact h
   have HZ3:=aB (show Z=restT o (a1,a3,a4) (b1,b3,b4) (!nf) from by rw[HZ.o];exact rest_tail (by omega) (by omega) (by omega) (by omega));clear HZ;cases nf
   case false=>
    have HZ:=aB (show Z=(zVl,0) from HZ3.o);clear HZ3 h13 h17 h18;go_wp2_with fail;refine(HW.o _).mono ?_;rintro e w5 ⟨rfl,rfl⟩;go_wp2_with (refine bA rfl rfl rfl rfl (cells3 zVl) (HF4.o).v rfl rfl vlInfo rfl ?_)
    intro w8 hB8 hX8;have hE8:=(hB8.same (W.heap.size+1) (by omega)).trans (HF4.o).e;have c1:=cK hE8;have z1:=aJ hE8 0;obtain⟨q0,q1,q2⟩:=three3 hX8;go_wp2_with fail;refine leaves_cons (f:=114) (args:= #[.pointer (some ⟨W.heap.size+1,0,none⟩),.func (.func 119) #[] #[.pointer (some ⟨W.heap.size,0,none⟩)]]) (by simp) (by simp[go_sem]) ?_;refine(scaught_idle _ _ _).mono ?_;rintro e u' w'' ⟨rfl,rfl,rfl⟩;obtain⟨r0,r1,r2⟩:=three3 (set1_other hX8 (b:=W.heap.size+1) (by omega) 0 (.int .i64 0));have r3:=cK (lN hE8 0 (.int .i64 0));refine⟨.tuple #[VlV zVl,.int .i64 0],by simp[results,Tryz.results95,go_sem,r0,r1,r2,r3],by rw[HZ.o],(hB8.bl (HF4.o).bl (aH _)).set (p:=⟨W.heap.size+1,0,none⟩) (by show W.heap.size<=W.heap.size+1;omega) _⟩
   by_cases h16:o=16
   ·subst h16;have HLG:Hid (∀w,Calls Tryz.prog 125 #[SV a1 a3 a4 b1 b3 b4 16] w fun e w'=>e= .returned (VlV (logicV 16 (knVl (a1,a3,a4)) (knVl (b1,b3,b4))))/\Bl w w'):=fun w=>splogic_any a1 a3 a4 b1 b3 b4 16 FA.o.1 FB.o.1 (hkA.o (by omega)) (hkB.o (by omega)) w;have HZ:=aB (show Z=(logicV 16 (knVl (a1,a3,a4)) (knVl (b1,b3,b4)),0) from HZ3.o);generalize logicV 16 (knVl (a1,a3,a4)) (knVl (b1,b3,b4))=lv at *;clear HZ3 h13 h17 h18;go_wp2_with fail;refine(HW.o _).mono ?_;rintro e w5 ⟨rfl,rfl⟩;go_wp2_with fail;refine(HLG.o _).mono ?_;rintro e w5 ⟨rfl,hb5⟩;have HF5:=aB (HF4.o.call hb5);go_wp2_with (refine bA rfl rfl rfl rfl (cells3 lv) (HF5.o).v rfl rfl vlInfo rfl ?_)
    intro w8 hB8 hX8;have hE8:=(hB8.same (W.heap.size+1) (by omega)).trans (HF5.o).e;have c1:=cK hE8;have z1:=aJ hE8 0;obtain⟨q0,q1,q2⟩:=three3 hX8;go_wp2_with fail;refine leaves_cons (f:=114) (args:= #[.pointer (some ⟨W.heap.size+1,0,none⟩),.func (.func 119) #[] #[.pointer (some ⟨W.heap.size,0,none⟩)]]) (by simp) (by simp[go_sem]) ?_;refine(scaught_idle _ _ _).mono ?_;rintro e u' w'' ⟨rfl,rfl,rfl⟩;obtain⟨r0,r1,r2⟩:=three3 (set1_other hX8 (b:=W.heap.size+1) (by omega) 0 (.int .i64 0));have r3:=cK (lN hE8 0 (.int .i64 0));refine⟨.tuple #[VlV lv,.int .i64 0],by simp[results,Tryz.results95,go_sem,r0,r1,r2,r3],by rw[HZ.o],(hB8.bl (HF5.o).bl (aH _)).set (p:=⟨W.heap.size+1,0,none⟩) (by show W.heap.size<=W.heap.size+1;omega) _⟩
   have g16:(o==16)=false:=(by simpa using h16);by_cases h7:7<=o/\o<=12
   ·have HW2:Hid (∀w,Calls Tryz.prog 124 #[.int .i64 o,.int .i64 7,.int .i64 12] w fun e w'=>e= .returned (.bool true)/\w=w'):=fun w=>by
     have h:=swithin_any o 7 12 w;rw[decide_eq_true h7.1,decide_eq_true h7.2] at h;exact h
    have HOR:Hid (∀w,Calls Tryz.prog 126 #[SV a1 a3 a4 b1 b3 b4 o] w fun e w'=>e= .returned (VlV (tVl (truthO o (ordVl (a1,a3,a4) (b1,b3,b4)))))/\Bl w w'):=fun w=>spordered_any a1 a3 a4 b1 b3 b4 o h7 w;have HZ:=aB (show Z=(tVl (truthO o (ordVl (a1,a3,a4) (b1,b3,b4))),0) from by rw[HZ3.o];unfold restT;rw[if_neg (by decide),if_neg h16,if_neg (by omega),if_neg (by omega),if_pos h7]);generalize tVl (truthO o (ordVl (a1,a3,a4) (b1,b3,b4)))=lv at *;clear HZ3 h13 h17 h18 h16 h7;go_wp2_with fail;refine(HW.o _).mono ?_;rintro e w5 ⟨rfl,rfl⟩;go_wp2_with fail;refine(HW2.o _).mono ?_;rintro e w5 ⟨rfl,rfl⟩;go_wp2_with fail;refine(HOR.o _).mono ?_;rintro e w5 ⟨rfl,hb5⟩;have HF5:=aB (HF4.o.call hb5);go_wp2_with (refine bA rfl rfl rfl rfl (cells3 lv) (HF5.o).v rfl rfl vlInfo rfl ?_)
    intro w8 hB8 hX8;have hE8:=(hB8.same (W.heap.size+1) (by omega)).trans (HF5.o).e;have c1:=cK hE8;have z1:=aJ hE8 0;obtain⟨q0,q1,q2⟩:=three3 hX8;go_wp2_with fail;refine leaves_cons (f:=114) (args:= #[.pointer (some ⟨W.heap.size+1,0,none⟩),.func (.func 119) #[] #[.pointer (some ⟨W.heap.size,0,none⟩)]]) (by simp) (by simp[go_sem]) ?_;refine(scaught_idle _ _ _).mono ?_;rintro e u' w'' ⟨rfl,rfl,rfl⟩;obtain⟨r0,r1,r2⟩:=three3 (set1_other hX8 (b:=W.heap.size+1) (by omega) 0 (.int .i64 0));have r3:=cK (lN hE8 0 (.int .i64 0));refine⟨.tuple #[VlV lv,.int .i64 0],by simp[results,Tryz.results95,go_sem,r0,r1,r2,r3],by rw[HZ.o],(hB8.bl (HF5.o).bl (aH _)).set (p:=⟨W.heap.size+1,0,none⟩) (by show W.heap.size<=W.heap.size+1;omega) _⟩
   have HW2:Hid (∀w,Calls Tryz.prog 124 #[.int .i64 o,.int .i64 7,.int .i64 12] w fun e w'=>e= .returned (.bool false)/\w=w'):=fun w=>by
    have h:=swithin_any o 7 12 w;rw[show(decide ((7:Int)<=o)&&decide (o<=12))=false from by rw[Bool.and_eq_false_iff];simp only[decide_eq_false_iff_not];omega] at h;exact h
   have HNN:=aB (HNA.o rfl);obtain⟨g,hlk,hen,hg⟩:=does_fun (o:=o) FA.o.1 FB.o.1 FA.o.2.1 FB.o.2.1 FA.o.2.2.2 HNN.o HO.o h13 (by omega) h16 h7;have HLK:=aB hlk;have HZ2:=aB (show Z=((restT o (a1,a3,a4) (b1,b3,b4) false).1,(restT o (a1,a3,a4) (b1,b3,b4) false).2) from HZ3.o);have HG:Hid (∀w,Calls Tryz.prog g #[PV a1 a3 a4 b1 b3 b4] w fun e w'=>e=resV ((restT o (a1,a3,a4) (b1,b3,b4) false).1,(restT o (a1,a3,a4) (b1,b3,b4) false).2)/\Bl w w'):=hg;have HER:=aB (rest_err (o:=o) (a:=(a1,a3,a4)) (b:=(b1,b3,b4)));generalize (restT o (a1,a3,a4) (b1,b3,b4) false).1=v at *;generalize (restT o (a1,a3,a4) (b1,b3,b4) false).2=c at *;clear HZ3 h13 h17 h18 h16 h7 hlk hg HNA HNN hkA hkB;go_wp2_with fail;refine(HW.o _).mono ?_;rintro e w5 ⟨rfl,rfl⟩;go_wp2_with fail;refine(HW2.o _).mono ?_;rintro e w5 ⟨rfl,rfl⟩;go_wp2_with fail;clear p0 p1 p2 p3 p4 p5 p6;refine(a2t 8 (fun B=>B.heap[D]?=some (.cells #[.int .i64 a1,.int .i64 a3,S a4,.int .i64 b1,.int .i64 b3,S b4,.int .i64 o] 164 (0,0))) ((.take 1 (.take 3 (.take 4 (.one 0 (.one 2 (.one 5 (.one 6 (.one 7 .done))))))))) (by kernel_rfl) (by kernel_rfl) (by kernel_rfl) (by kernel_rfl) (fun c a d v w hd h=>sDo_put _ c a d v w hd h) (HP4.o) ?_);intro wd HWD hY;iterate 3 (refine aI rfl (by rfl) (by intro w hSw;(try dsimp only at hSw);obtain⟨p0,p1,p2,p3,p4,p5,p6⟩:=seven7 hSw;go_simp;(try(first |with_reducible rfl|rfl))) ?_;(try simp only[aK,aA,aD,aF]))
   refine aL rfl (fun K hK=>?_);go_simp;((with_reducible refine(sdoes_any _).mono ?_);rintro e w6 ⟨rfl,rfl⟩);go_wp2_with fail;refine hK.o _ _ ((by first |exact keep_b hY hb9|exact keep_b hY ((Bl.refl _).alloc _)|exact(hB8.same _ (by omega)).trans hY)) ?_;clear hY hK K;intro hY;have hlook:=HLK.o (wd.alloc (.map doesAll 9)) wd.heap.size (aN wd _);refine aL rfl (fun K hK=>?_);go_simp;refine hK.o _ _ (hY) ?_;clear hY hK K;intro hY;refine aL rfl (fun K hK=>?_);go_simp;(refine(HG.o _).mono ?_;rintro e w9 ⟨he,hb9⟩;have HF9:=aB (((HF4.o.call HWD.o).alloc (.map doesAll 9)).call hb9);rcases resV_ways v c with⟨hc,h⟩|⟨hc,h⟩<;>(rw[h] at he;subst he;have HCC:=aB hc;clear h hc);rotate_left;(· have HZ:=aB (show Z=(zVl,c) from by rw[HZ2.o,HER.o HCC.o]);have c1:=cK (HF9.o).e;have z1:=aJ (HF9.o).e 0;go_wp2_with fail;refine leaves_cons (f:=114) (args:= #[.pointer (some ⟨W.heap.size+1,0,none⟩),.func (.func 119) #[] #[.pointer (some ⟨W.heap.size,0,none⟩)]]) (by simp) (by simp[go_sem]) ?_;refine(scaught_panic ⟨W.heap.size+1,0,none⟩ 0 (c) 119 #[] #[.pointer (some ⟨W.heap.size,0,none⟩)] #[.pointer (some ⟨W.heap.size,0,none⟩)] (by simp) _ _ c1 z1 enters_sDo1 (sDo1_any W.heap.size _ _ _ _ (set1_other (HF9.o).v (b:=W.heap.size+1) (by omega) 0 (.int .i64 (c))))).mono ?_;rintro e u' w'' ⟨rfl,rfl,hB9,hX9⟩;obtain⟨r0,r1,r2⟩:=three3 hX9;have r3:=cK ((hB9.same (W.heap.size+1) (by omega)).trans (lN (HF9.o).e 0 (.int .i64 (c))));refine⟨.tuple #[VlV zVl,.int .i64 (c)],by simp[results,Tryz.results95,go_sem,r0,r1,r2,r3],by rw[HZ.o],hB9.bl ((HF9.o).bl.set (p:=⟨W.heap.size+1,0,none⟩) (by show W.heap.size<=W.heap.size+1;omega) _) (aH _)⟩));go_wp2_with fail;refine hK.o _ _ ((by first |exact keep_b hY hb9|exact keep_b hY ((Bl.refl _).alloc _)|exact(hB8.same _ (by omega)).trans hY)) ?_;clear hY hK K;intro hY;refine aL rfl (fun K hK=>?_);rw[if_pos (by rfl)];refine bC rfl rfl rfl (cells3 v) HF9.o.v rfl rfl vlInfo rfl ?_;intro w8 hB8 hX8;refine hK.o _ _ ((by first |exact keep_b hY hB89|exact keep_b hY ((Bl.refl _).alloc _)|exact(hB8.same _ (by omega)).trans hY)) ?_;clear hY hK K;intro hY;(try simp only[aK])
   have hE8:=(hB8.same (W.heap.size+1) (by omega)).trans HF9.o.e;have c1:=cK hE8;have z1:=aJ hE8 0;refine aL rfl (fun K hK=>?_);go_simp;refine hK.o _ _ ((set1_other hY (by omega) 0 _)) ?_;clear hY hK K;intro hY;refine fO ?_;have HZ:=aB (show Z=(v,0) from by rw[HZ2.o,HCC.o]);obtain⟨q0,q1,q2⟩:=three3 hX8;go_wp2_with fail;refine leaves_cons (f:=114) (args:= #[.pointer (some ⟨W.heap.size+1,0,none⟩),.func (.func 119) #[] #[.pointer (some ⟨W.heap.size,0,none⟩)]]) (by simp) (by simp[go_sem]) ?_;refine(scaught_idle _ _ _).mono ?_;rintro e u' w'' ⟨rfl,rfl,rfl⟩;obtain⟨r0,r1,r2⟩:=three3 (set1_other hX8 (b:=W.heap.size+1) (by omega) 0 (.int .i64 0));have r3:=cK (lN hE8 0 (.int .i64 0));refine⟨.tuple #[VlV v,.int .i64 0],by simp[results,Tryz.results95,go_sem,r0,r1,r2,r3],by rw[HZ.o],(hB8.bl (HF9.o).bl (aH _)).set (p:=⟨W.heap.size+1,0,none⟩) (by show W.heap.size<=W.heap.size+1;omega) _⟩
end
end Go.Proofs.YtkimpcmkminffaaGreatDoor
