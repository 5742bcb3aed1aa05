/- Texts beside the shared ones. -/
import Derived.Test.YtkimpcmkminffaaGreatDoorWX0
import Derived.Test.YtkimpcmkminffaaGreatDoorWFT
import Derived.Test.YtkimpcmkminffaaGreatDoorWM7
import Derived.Test.YtkimpcmkminffaaGreatDoorWGS
namespace Go.Proofs.YtkimpcmkminffaaGreatDoor
open Go.RowKit
open _root_.Go.Act renaming put->aK
open _root_.Go.Lib renaming hid->aB
open _root_.List renaming setIfInBounds_toArray->aA,set_cons_succ->aF,set_cons_zero->aD
open NoPanic renaming normal->bF
set_option maxRecDepth 100000
set_option maxHeartbeats 4000000
section
theorem oOrder_same(r1 r2:Int)(r3:List UInt8)(hk:I64 r1)(W:World)(g1 g2:Nat){t1 t2:TypeId}(h1:W.heap[g1]?=some (.cells #[.int .i64 r1,.int .i64 r2,S r3] t1 (0,0)))(h2:W.heap[g2]?=some (.cells #[.int .i64 r1,.int .i64 r2,S r3] t2 (0,0))):
  Calls Tryz.prog 10 #[.slice (some ⟨g1,0,none⟩) 1 1,.slice (some ⟨g2,0,none⟩) 1 1] W fun e w'=>e= .returned (.int .i64 0)/\Bl W w':=by
 have H1:=aB h1;have H2:=aB h2;have HO:Hid (∀W',Calls Tryz.prog 29 #[V r1 r2 r3,V r1 r2 r3] W' fun e w'=>e= .returned (.int .i64 0)/\Bl W' w'):=fun W'=>(rOrder_any r1 r2 r3 r1 r2 r3 hk.1 hk.2 hk.1 hk.2 W').mono fun e w' ⟨he,hb⟩=>⟨by rw[he,(cmpV_zero _ _ _ _ _ _).2 ⟨rfl,rfl,rfl⟩],hb⟩
 clear h1 h2 hk;go_enter Tryz.func10,Tryz.ntmps10;go_wp2_with fail;go_loopw [5,6] (fun i n wr=>∃k:Nat,k<=1/\i= .int .i64 (k:Int)/\Bl W wr) (fun i _ _=>1-(intOf i).toNat)
 case atStart=>exact⟨0,by omega,rfl,Bl.refl _⟩
 case round=>
  obtain⟨k,hk,rfl,HB⟩:=hrel;by_cases h0:k=0
  ·subst h0;have HB1:=aB HB;clear HB
   go_upto_region 4 with fail
   refine wp_region_noPanic (bM (fun B=>Bl wr B) ((.take 0 (.take 1 (.take 2 (.take 3 (.take 4 (.take 5 (.take 6 (.take 7 (.one 8 (.take 9 .done))))))))))) (by kernel_rfl) (by kernel_rfl) (by kernel_rfl) (fun _ _ _ _ _ h=>h) (((Bl.refl wr).drew)) ?_);intro wd HWD hY;iterate 8 (refine aI rfl (by rfl) (by intro w hSw;(try dsimp only at hSw);obtain⟨p0,p1,p2⟩:=three3 (keep_b H1.o (HB1.o.call hSw));obtain⟨q0,q1,q2⟩:=three3 (keep_b H2.o (HB1.o.call hSw));go_simp;(try(first |with_reducible rfl|rfl))) ?_;(try simp only[aK,aA,aD,aF]))
   refine aL rfl (fun K hK=>?_);go_simp;(refine(HO.o _).mono ?_;rintro e w9 ⟨rfl,hb9⟩);go_wp2_with fail;refine hK.o _ _ ((by first |exact hY.call hb9|exact hY)) ?_;clear hY hK K;intro hY;refine aI rfl (by rfl) (by intro w hSw;(try dsimp only at hSw);obtain⟨p0,p1,p2⟩:=three3 (keep_b H1.o (HB1.o.call hSw));obtain⟨q0,q1,q2⟩:=three3 (keep_b H2.o (HB1.o.call hSw));go_simp;(try(first |with_reducible rfl|rfl))) ?_;(try simp only[aK,aA,aD,aF])
   refine fO (bF ?_);have HB2:=aB (HB1.o.call hY);clear hY HB1;go_wp2;go_roundw
   case rel=>exact⟨1,by omega,rfl,HB2.o⟩
   case measure=>simp[intOf]
  ·obtain rfl:k=1:=by omega
   go_wp2;go_ret;exact⟨rfl,HB⟩
end
end Go.Proofs.YtkimpcmkminffaaGreatDoor
