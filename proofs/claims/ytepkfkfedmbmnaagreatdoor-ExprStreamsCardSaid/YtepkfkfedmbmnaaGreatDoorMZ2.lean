/- The program's readers at no stream: each is given up with 261. The program's readers at no stream, and Read. ExprStreams: the walk. -/
import Derived.Test.YtepkfkfedmbmnaaGreatDoorMF
import Derived.Test.YtepkfkfedmbmnaaGreatDoorMY
import Derived.Test.YtepkfkfedmbmnaaGreatDoorMZ
import Derived.Test.YtepkfkfedmbmnaaGreatDoorMK
namespace Go.Proofs.YtepkfkfedmbmnaaGreatDoor
open Go.RowKit
set_option maxRecDepth 100000

abbrev RN : Value := .agg #[.pointer none]
/-- At no stream it is given up. -/
abbrev NilP (fn : FuncId) : Prop := ∀ (W : World) (d : Int), Calls Tryz.prog fn #[RN, .int .i64 d] W fun e w' => e = Pan 261 ∧ Bl W w'
--BEGIN1
set_option maxHeartbeats 2000000 in
theorem ealone_nil : NilP 140 := fun W d => by
  go_enter Tryz.func140, Tryz.ntmps140
  have HB0 := Lib.hid (((Bl.refl W).alloc (.cells #[.pointer none] 80)).alloc (.cells #[.int .i64 0, .int .i64 0, .int .i64 0, S [], S [], S [], .int .i64 0, .slice none 0 0] 30))
  have hR0 := (heap_old (W.alloc (.cells #[.pointer none] 80)) (.cells #[.int .i64 0, .int .i64 0, .int .i64 0, S [], S [], S [], .int .i64 0, .slice none 0 0] 30) (by simp)).trans (heap_new W _)
  have HR0 := Lib.hid hR0
  clear hR0
  go_wp2_with fail
  (with_reducible refine (tPeek_none (W := _) (p := none) (by unfold NoStr; exact Or.inl rfl)).mono ?_)
  rintro e w1 ⟨rfl, hb1⟩
  have HB1 := Lib.hid (HB0.out.call hb1)
  have hR1 := (hb1.block W.heap.size (by simp; omega)).trans HR0.out
  have p0 := cells1 hR1
  have pz := (Array.getElem?_eq_some_iff.1 hR1).1
  clear hb1
  have HA := Lib.hid (((Bl.refl w1).alloc (.cells #[.int .i64 0, .int .i64 0, S [], .int .i64 0, .int .i64 0, S []] 53)).alloc (.cells #[S sFalse, S sTrue, S sNull] 9))
  have HR1 := Lib.hid hR1
  clear hR1
  go_wp2_with fail
  go_loopw [27] (fun i wr => ∃ j : Nat, j ≤ 3 ∧ i = .int .i64 (j : Int) ∧ Hid (Bl W wr) ∧ Hid (wr.heap[W.heap.size]? = some (.cells #[.pointer none] 80 (0, 0))) ∧ Hid (wr.heap[w1.heap.size + 1]? = some (.cells #[S sFalse, S sTrue, S sNull] 9 (0, 0)))) (fun i _ => 3 - (intOf i).toNat)
  case atStart => exact ⟨0, by omega, rfl, HB1.out.call HA.out, (HA.out.block _ pz).trans HR1.out, heap_new' _ _ (by simp)⟩
  case round =>
    clear p0 pz
    obtain ⟨j, hj, rfl, HB, HR, HL⟩ := hrel
    have p0 := cells1 HR.out
    have pz := (Array.getElem?_eq_some_iff.1 HR.out).1
    by_cases hlt : j < 3
    · have c : wr.cell? ⟨w1.heap.size + 1, j, none⟩ = some (S (econsts[j]'hlt)) := by
        rw [Lib.cell_of_heap HL.out]
        match j, hlt with
        | 0, _ => rfl
        | 1, _ => rfl
        | 2, _ => rfl
      have hzl := (Array.getElem?_eq_some_iff.1 HL.out).1
      generalize econsts[j]'hlt = s at *
      have hlt' : (j : Int) < 3 := by omega
      go_wp2_with fail
      refine (tTake_none (W := _) (p := none) (by unfold NoStr; exact Or.inl rfl) _ _ _).mono ?_
      rintro e w2 ⟨rfl, hb2⟩
      have HB2 := Lib.hid (((Bl.refl wr).alloc _).call hb2)
      clear hb2
      go_wp2
      go_roundw
      case rel => exact ⟨j + 1, by omega, by go_num, HB.out.call HB2.out, (HB2.out.block _ pz).trans HR.out, (HB2.out.block _ hzl).trans HL.out⟩
      case measure => simp [intOf]; omega
    · obtain rfl : j = 3 := by omega
      go_wp2_with fail
      refine (tTake_none (W := _) (p := none) (by unfold NoStr; exact Or.inl rfl) _ _ _).mono ?_
      rintro e w2 ⟨rfl, hb2⟩
      have HB2 := Lib.hid (((Bl.refl wr).alloc _).call hb2)
      have q0 := cells1 ((HB2.out.block _ pz).trans HR.out)
      clear hb2 p0
      go_wp2_with fail
      (with_reducible refine (tName_none (W := _) (p := none) (by unfold NoStr; exact Or.inl rfl)).mono ?_)
      rintro e w3 ⟨rfl, hb3⟩
      go_wp2_with fail
      (with_reducible refine (emust_no _ _).mono ?_)
      rintro e w5 ⟨rfl, rfl⟩
      go_wp2
      exact ⟨rfl, rfl, (HB.out.call HB2.out).call hb3⟩
--END1
--BEGIN2
set_option maxHeartbeats 2000000 in
theorem esign_nil : NilP 120 := fun W d => by
  go_enter Tryz.func120, Tryz.ntmps120
  have HB0 := Lib.hid (((Bl.refl W).alloc (.cells #[.pointer none] 80)).alloc (.cells #[.int .i64 0, .int .i64 0, .int .i64 0, S [], S [], S [], .int .i64 0, .slice none 0 0] 30))
  have hR0 := (heap_old (W.alloc (.cells #[.pointer none] 80)) (.cells #[.int .i64 0, .int .i64 0, .int .i64 0, S [], S [], S [], .int .i64 0, .slice none 0 0] 30) (by simp)).trans (heap_new W _)
  have HR0 := Lib.hid hR0
  clear hR0
  go_wp2_with fail
  refine (tTake_none (W := _) (p := none) (by unfold NoStr; exact Or.inl rfl) _ _ _).mono ?_
  rintro e w1 ⟨rfl, hb1⟩
  have HB1 := Lib.hid (((Bl.refl _).alloc _).call hb1)
  have hR1 := (HB1.out.block W.heap.size (by simp; omega)).trans HR0.out
  have p0 := cells1 hR1
  clear hb1
  go_wp2_with fail
  (with_reducible refine (ealone_nil _ _).mono ?_)
  rintro e w2 ⟨rfl, hb2⟩
  go_wp2
  exact ⟨rfl, rfl, (HB0.out.call HB1.out).call hb2⟩
set_option maxHeartbeats 2000000 in
theorem eseveral_nil (fn : FuncId) (hf : NilP fn) (hen : ∀ (args : Array Value) (w : World), (callFunc fn args).run Tryz.prog w = .ok (.enter fn args) w) (W : World) (d : Int) (a : Option Addr) (n c : Nat) : Calls Tryz.prog 87 #[RN, .int .i64 d, .func (.func fn) #[] #[], .slice a n c] W fun e w' => e = Pan 261 ∧ Bl W w' := by
  have HF := Lib.hid hf
  clear hf
  go_enter Tryz.func87, Tryz.ntmps87
  have HB0 := Lib.hid (((Bl.refl W).alloc (.cells #[.pointer none] 80)).alloc (.cells #[.int .i64 0, .int .i64 0, .int .i64 0, S [], S [], S [], .int .i64 0, .slice none 0 0] 30))
  have hR0 := (heap_old (W.alloc (.cells #[.pointer none] 80)) (.cells #[.int .i64 0, .int .i64 0, .int .i64 0, S [], S [], S [], .int .i64 0, .slice none 0 0] 30) (by simp)).trans (heap_new W _)
  have HR0 := Lib.hid hR0
  clear hR0
  go_wp2_with fail
  refine (HF.out _ _).mono ?_
  rintro e w2 ⟨rfl, hb2⟩
  go_wp2
  exact ⟨rfl, rfl, HB0.out.call hb2⟩
set_option maxHeartbeats 2000000 in
theorem eproduct_nil : NilP 92 := fun W d => by
  go_enter Tryz.func92, Tryz.ntmps92
  have HB0 := Lib.hid (((Bl.refl W).alloc (.cells #[.pointer none] 80)).alloc (.cells #[.int .i64 0, .int .i64 0, .int .i64 0, S [], S [], S [], .int .i64 0, .slice none 0 0] 30))
  have hR0 := (heap_old (W.alloc (.cells #[.pointer none] 80)) (.cells #[.int .i64 0, .int .i64 0, .int .i64 0, S [], S [], S [], .int .i64 0, .slice none 0 0] 30) (by simp)).trans (heap_new W _)
  have HR0 := Lib.hid hR0
  clear hR0
  go_wp2_with fail
  refine (eseveral_nil 120 esign_nil (enters_rdF 7) _ _ _ _ _).mono ?_
  rintro e w2 ⟨rfl, hb2⟩
  go_wp2
  exact ⟨rfl, rfl, (HB0.out.alloc _).call hb2⟩
set_option maxHeartbeats 2000000 in
theorem esum_nil : NilP 63 := fun W d => by
  go_enter Tryz.func63, Tryz.ntmps63
  have HB0 := Lib.hid (((Bl.refl W).alloc (.cells #[.pointer none] 80)).alloc (.cells #[.int .i64 0, .int .i64 0, .int .i64 0, S [], S [], S [], .int .i64 0, .slice none 0 0] 30))
  have hR0 := (heap_old (W.alloc (.cells #[.pointer none] 80)) (.cells #[.int .i64 0, .int .i64 0, .int .i64 0, S [], S [], S [], .int .i64 0, .slice none 0 0] 30) (by simp)).trans (heap_new W _)
  have HR0 := Lib.hid hR0
  clear hR0
  go_wp2_with fail
  refine (eseveral_nil 92 eproduct_nil (enters_rdF 6) _ _ _ _ _).mono ?_
  rintro e w2 ⟨rfl, hb2⟩
  go_wp2
  exact ⟨rfl, rfl, (HB0.out.alloc _).call hb2⟩
--END2

end Go.Proofs.YtepkfkfedmbmnaaGreatDoor

namespace Go.Proofs.YtepkfkfedmbmnaaGreatDoor
open Go.RowKit
set_option maxRecDepth 100000

theorem kept_of {A B : World} {b : Nat} {o : Obj} (h : A.heap[b]? = some o) (hb : Bl A B) : B.heap[b]? = some o := (hb.block _ (Array.getElem?_eq_some_iff.1 h).1).trans h
--BEGIN1
set_option maxHeartbeats 2000000 in
theorem ecat_nil : NilP 62 := fun W d => by
  go_enter Tryz.func62, Tryz.ntmps62
  have HB0 := Lib.hid (((Bl.refl W).alloc (.cells #[.pointer none] 80)).alloc (.cells #[.int .i64 0, .int .i64 0, .int .i64 0, S [], S [], S [], .int .i64 0, .slice none 0 0] 30))
  have hR0 := (heap_old (W.alloc (.cells #[.pointer none] 80)) (.cells #[.int .i64 0, .int .i64 0, .int .i64 0, S [], S [], S [], .int .i64 0, .slice none 0 0] 30) (by simp)).trans (heap_new W _)
  have HR0 := Lib.hid hR0
  clear hR0
  go_wp2_with fail
  refine (wp_region_sd (fun B => B.heap[W.heap.size]? = some (.cells #[.pointer none] 80 (0, 0))) (.take 0 (.take 1 (.two 2 4 (.take 3 (.one 4 (.one 5 (.one 6 .done)))) (.one 2 (.take 3 (.one 5 (.one 6 .done))))))) (by kernel_rfl) (by kernel_rfl) (by kernel_rfl) (fun c a d v w h => by cases d <;> exact h) (kept_of HR0.out ((Bl.refl _).drew)) ?_) -- wp_region_sc 
  intro wd HWD hHeld
  refine sc_take' rfl (by rfl) (by intro w hSw; (try dsimp only at hSw); have a0 := cells1 hSw; go_simp; (try (first | with_reducible rfl | rfl))) ?_; (try simp only [Act.put, List.setIfInBounds_toArray, List.set_cons_zero, List.set_cons_succ])
  refine sc_take' rfl (by rfl) (by intro w hSw; (try dsimp only at hSw); have a0 := cells1 hSw; go_simp; (try (first | with_reducible rfl | rfl))) ?_; (try simp only [Act.put, List.setIfInBounds_toArray, List.set_cons_zero, List.set_cons_succ])
  refine sc_two ?_ ?_
  focus
    refine sc_call' rfl (fun K hK => ?_); go_simp; ((with_reducible refine (elevels_any _).mono ?_); rintro e w2 ⟨rfl, hb2⟩; have HB2 := Lib.hid ((HB0.out.call HWD.out).call hb2)); go_wp2_with fail; refine hK.out _ _ ((kept_of hHeld hb2)) (fun hHeld2 => ?_); clear hHeld hK K; have hHeld := hHeld2; clear hHeld2
    refine sc_take' rfl (by rfl) (by intro w hSw; (try dsimp only at hSw); have a0 := cells1 hSw; go_simp; (try (first | with_reducible rfl | rfl))) ?_; (try simp only [Act.put, List.setIfInBounds_toArray, List.set_cons_zero, List.set_cons_succ])
    refine sc_call' rfl (fun K hK => ?_); go_simp; refine hK.out _ _ ((kept_of hHeld ((Bl.refl _).alloc _))) (fun hHeld2 => ?_); clear hHeld hK K; have hHeld := hHeld2; clear hHeld2
    refine sc_call' rfl (fun K hK => ?_)
    go_simp
    refine (eseveral_nil 63 esum_nil (enters_rdF 5) _ _ _ _ _).mono ?_
    rintro e w5 ⟨rfl, hb5⟩
    go_wp2
    exact ⟨rfl, rfl, (HB2.out.alloc _).call hb5⟩
  focus
    refine sc_call' rfl (fun K hK => ?_); go_simp; refine hK.out _ _ ((kept_of hHeld ((Bl.refl _).alloc _))) (fun hHeld2 => ?_); clear hHeld hK K; have hHeld := hHeld2; clear hHeld2
    refine sc_call' rfl (fun K hK => ?_); go_simp; ((with_reducible refine (elevels_any _).mono ?_); rintro e w2 ⟨rfl, hb2⟩; have HB2 := Lib.hid (((HB0.out.call HWD.out).alloc _).call hb2)); go_wp2_with fail; refine hK.out _ _ ((kept_of hHeld hb2)) (fun hHeld2 => ?_); clear hHeld hK K; have hHeld := hHeld2; clear hHeld2
    refine sc_take' rfl (by rfl) (by intro w hSw; (try dsimp only at hSw); have a0 := cells1 hSw; go_simp; (try (first | with_reducible rfl | rfl))) ?_; (try simp only [Act.put, List.setIfInBounds_toArray, List.set_cons_zero, List.set_cons_succ])
    refine sc_call' rfl (fun K hK => ?_)
    go_simp
    refine (eseveral_nil 63 esum_nil (enters_rdF 5) _ _ _ _ _).mono ?_
    rintro e w5 ⟨rfl, hb5⟩
    go_wp2
    exact ⟨rfl, rfl, HB2.out.call hb5⟩
set_option maxHeartbeats 2000000 in
theorem ecompared_nil : NilP 61 := fun W d => by
  go_enter Tryz.func61, Tryz.ntmps61
  have HB0 := Lib.hid (((Bl.refl W).alloc (.cells #[.pointer none] 80)).alloc (.cells #[.int .i64 0, .int .i64 0, .int .i64 0, S [], S [], S [], .int .i64 0, .slice none 0 0] 30))
  have hR0 := (heap_old (W.alloc (.cells #[.pointer none] 80)) (.cells #[.int .i64 0, .int .i64 0, .int .i64 0, S [], S [], S [], .int .i64 0, .slice none 0 0] 30) (by simp)).trans (heap_new W _)
  have HR0 := Lib.hid hR0
  clear hR0
  go_wp2_with fail
  (with_reducible refine (ecat_nil _ _).mono ?_)
  rintro e w2 ⟨rfl, hb2⟩
  go_wp2
  exact ⟨rfl, rfl, HB0.out.call hb2⟩
set_option maxHeartbeats 2000000 in
theorem enot_nil : NilP 60 := fun W d => by
  go_enter Tryz.func60, Tryz.ntmps60
  have HB0 := Lib.hid (((Bl.refl W).alloc (.cells #[.pointer none] 80)).alloc (.cells #[.int .i64 0, .int .i64 0, .int .i64 0, S [], S [], S [], .int .i64 0, .slice none 0 0] 30))
  have hR0 := (heap_old (W.alloc (.cells #[.pointer none] 80)) (.cells #[.int .i64 0, .int .i64 0, .int .i64 0, S [], S [], S [], .int .i64 0, .slice none 0 0] 30) (by simp)).trans (heap_new W _)
  have HR0 := Lib.hid hR0
  clear hR0
  go_wp2_with fail
  refine (tTake_none (W := _) (p := none) (by unfold NoStr; exact Or.inl rfl) _ _ _).mono ?_
  rintro e w1 ⟨rfl, hb1⟩
  have HB1 := Lib.hid (((Bl.refl _).alloc _).call hb1)
  have HR1 := Lib.hid (kept_of HR0.out HB1.out)
  clear hb1
  go_wp2_with fail
  refine (wp_region_sd (fun B => B.heap[W.heap.size]? = some (.cells #[.pointer none] 80 (0, 0))) (.take 2 (.take 3 (.one 0 (.take 1 (.one 4 (.one 5 .done)))))) (by kernel_rfl) (by kernel_rfl) (by kernel_rfl) (fun c a d v w h => by cases d <;> exact h) (kept_of HR1.out ((Bl.refl _).drew)) ?_) -- wp_region_sc 
  intro wd HWD hHeld
  refine sc_take' rfl (by rfl) (by intro w hSw; (try dsimp only at hSw); have a0 := cells1 hSw; go_simp; (try (first | with_reducible rfl | rfl))) ?_; (try simp only [Act.put, List.setIfInBounds_toArray, List.set_cons_zero, List.set_cons_succ])
  refine sc_take' rfl (by rfl) (by intro w hSw; (try dsimp only at hSw); have a0 := cells1 hSw; go_simp; (try (first | with_reducible rfl | rfl))) ?_; (try simp only [Act.put, List.setIfInBounds_toArray, List.set_cons_zero, List.set_cons_succ])
  refine sc_call' rfl (fun K hK => ?_); go_simp; ((with_reducible refine (elevels_any _).mono ?_); rintro e w2 ⟨rfl, hb2⟩; have HB2 := Lib.hid (((HB0.out.call HB1.out).call HWD.out).call hb2)); go_wp2_with fail; refine hK.out _ _ ((kept_of hHeld hb2)) (fun hHeld2 => ?_); clear hHeld hK K; have hHeld := hHeld2; clear hHeld2
  refine sc_take' rfl (by rfl) (by intro w hSw; (try dsimp only at hSw); have a0 := cells1 hSw; go_simp; (try (first | with_reducible rfl | rfl))) ?_; (try simp only [Act.put, List.setIfInBounds_toArray, List.set_cons_zero, List.set_cons_succ])
  refine sc_call' rfl (fun K hK => ?_)
  go_simp
  refine (ecompared_nil _ _).mono ?_
  rintro e w5 ⟨rfl, hb5⟩
  go_wp2
  exact ⟨rfl, rfl, HB2.out.call hb5⟩
set_option maxHeartbeats 2000000 in
theorem eand_nil : NilP 59 := fun W d => by
  go_enter Tryz.func59, Tryz.ntmps59
  have HB0 := Lib.hid (((Bl.refl W).alloc (.cells #[.pointer none] 80)).alloc (.cells #[.int .i64 0, .int .i64 0, .int .i64 0, S [], S [], S [], .int .i64 0, .slice none 0 0] 30))
  have hR0 := (heap_old (W.alloc (.cells #[.pointer none] 80)) (.cells #[.int .i64 0, .int .i64 0, .int .i64 0, S [], S [], S [], .int .i64 0, .slice none 0 0] 30) (by simp)).trans (heap_new W _)
  have HR0 := Lib.hid hR0
  clear hR0
  go_wp2_with fail
  refine (wp_region_sd (fun B => B.heap[W.heap.size]? = some (.cells #[.pointer none] 80 (0, 0))) (.take 0 (.take 1 (.two 2 4 (.take 3 (.one 4 (.one 5 (.one 6 .done)))) (.one 2 (.take 3 (.one 5 (.one 6 .done))))))) (by kernel_rfl) (by kernel_rfl) (by kernel_rfl) (fun c a d v w h => by cases d <;> exact h) (kept_of HR0.out ((Bl.refl _).drew)) ?_) -- wp_region_sc 
  intro wd HWD hHeld
  refine sc_take' rfl (by rfl) (by intro w hSw; (try dsimp only at hSw); have a0 := cells1 hSw; go_simp; (try (first | with_reducible rfl | rfl))) ?_; (try simp only [Act.put, List.setIfInBounds_toArray, List.set_cons_zero, List.set_cons_succ])
  refine sc_take' rfl (by rfl) (by intro w hSw; (try dsimp only at hSw); have a0 := cells1 hSw; go_simp; (try (first | with_reducible rfl | rfl))) ?_; (try simp only [Act.put, List.setIfInBounds_toArray, List.set_cons_zero, List.set_cons_succ])
  refine sc_two ?_ ?_
  focus
    refine sc_call' rfl (fun K hK => ?_); go_simp; ((with_reducible refine (elevels_any _).mono ?_); rintro e w2 ⟨rfl, hb2⟩; have HB2 := Lib.hid ((HB0.out.call HWD.out).call hb2)); go_wp2_with fail; refine hK.out _ _ ((kept_of hHeld hb2)) (fun hHeld2 => ?_); clear hHeld hK K; have hHeld := hHeld2; clear hHeld2
    refine sc_take' rfl (by rfl) (by intro w hSw; (try dsimp only at hSw); have a0 := cells1 hSw; go_simp; (try (first | with_reducible rfl | rfl))) ?_; (try simp only [Act.put, List.setIfInBounds_toArray, List.set_cons_zero, List.set_cons_succ])
    refine sc_call' rfl (fun K hK => ?_); go_simp; refine hK.out _ _ ((kept_of hHeld ((Bl.refl _).alloc _))) (fun hHeld2 => ?_); clear hHeld hK K; have hHeld := hHeld2; clear hHeld2
    refine sc_call' rfl (fun K hK => ?_)
    go_simp
    refine (eseveral_nil 60 enot_nil (enters_rdF 2) _ _ _ _ _).mono ?_
    rintro e w5 ⟨rfl, hb5⟩
    go_wp2
    exact ⟨rfl, rfl, (HB2.out.alloc _).call hb5⟩
  focus
    refine sc_call' rfl (fun K hK => ?_); go_simp; refine hK.out _ _ ((kept_of hHeld ((Bl.refl _).alloc _))) (fun hHeld2 => ?_); clear hHeld hK K; have hHeld := hHeld2; clear hHeld2
    refine sc_call' rfl (fun K hK => ?_); go_simp; ((with_reducible refine (elevels_any _).mono ?_); rintro e w2 ⟨rfl, hb2⟩; have HB2 := Lib.hid (((HB0.out.call HWD.out).alloc _).call hb2)); go_wp2_with fail; refine hK.out _ _ ((kept_of hHeld hb2)) (fun hHeld2 => ?_); clear hHeld hK K; have hHeld := hHeld2; clear hHeld2
    refine sc_take' rfl (by rfl) (by intro w hSw; (try dsimp only at hSw); have a0 := cells1 hSw; go_simp; (try (first | with_reducible rfl | rfl))) ?_; (try simp only [Act.put, List.setIfInBounds_toArray, List.set_cons_zero, List.set_cons_succ])
    refine sc_call' rfl (fun K hK => ?_)
    go_simp
    refine (eseveral_nil 60 enot_nil (enters_rdF 2) _ _ _ _ _).mono ?_
    rintro e w5 ⟨rfl, hb5⟩
    go_wp2
    exact ⟨rfl, rfl, HB2.out.call hb5⟩
set_option maxHeartbeats 2000000 in
theorem eor_nil : NilP 58 := fun W d => by
  go_enter Tryz.func58, Tryz.ntmps58
  have HB0 := Lib.hid (((Bl.refl W).alloc (.cells #[.pointer none] 80)).alloc (.cells #[.int .i64 0, .int .i64 0, .int .i64 0, S [], S [], S [], .int .i64 0, .slice none 0 0] 30))
  have hR0 := (heap_old (W.alloc (.cells #[.pointer none] 80)) (.cells #[.int .i64 0, .int .i64 0, .int .i64 0, S [], S [], S [], .int .i64 0, .slice none 0 0] 30) (by simp)).trans (heap_new W _)
  have HR0 := Lib.hid hR0
  clear hR0
  go_wp2_with fail
  refine (wp_region_sd (fun B => B.heap[W.heap.size]? = some (.cells #[.pointer none] 80 (0, 0))) (.take 0 (.take 1 (.two 2 4 (.take 3 (.one 4 (.one 5 (.one 6 .done)))) (.one 2 (.take 3 (.one 5 (.one 6 .done))))))) (by kernel_rfl) (by kernel_rfl) (by kernel_rfl) (fun c a d v w h => by cases d <;> exact h) (kept_of HR0.out ((Bl.refl _).drew)) ?_) -- wp_region_sc 
  intro wd HWD hHeld
  refine sc_take' rfl (by rfl) (by intro w hSw; (try dsimp only at hSw); have a0 := cells1 hSw; go_simp; (try (first | with_reducible rfl | rfl))) ?_; (try simp only [Act.put, List.setIfInBounds_toArray, List.set_cons_zero, List.set_cons_succ])
  refine sc_take' rfl (by rfl) (by intro w hSw; (try dsimp only at hSw); have a0 := cells1 hSw; go_simp; (try (first | with_reducible rfl | rfl))) ?_; (try simp only [Act.put, List.setIfInBounds_toArray, List.set_cons_zero, List.set_cons_succ])
  refine sc_two ?_ ?_
  focus
    refine sc_call' rfl (fun K hK => ?_); go_simp; ((with_reducible refine (elevels_any _).mono ?_); rintro e w2 ⟨rfl, hb2⟩; have HB2 := Lib.hid ((HB0.out.call HWD.out).call hb2)); go_wp2_with fail; refine hK.out _ _ ((kept_of hHeld hb2)) (fun hHeld2 => ?_); clear hHeld hK K; have hHeld := hHeld2; clear hHeld2
    refine sc_take' rfl (by rfl) (by intro w hSw; (try dsimp only at hSw); have a0 := cells1 hSw; go_simp; (try (first | with_reducible rfl | rfl))) ?_; (try simp only [Act.put, List.setIfInBounds_toArray, List.set_cons_zero, List.set_cons_succ])
    refine sc_call' rfl (fun K hK => ?_); go_simp; refine hK.out _ _ ((kept_of hHeld ((Bl.refl _).alloc _))) (fun hHeld2 => ?_); clear hHeld hK K; have hHeld := hHeld2; clear hHeld2
    refine sc_call' rfl (fun K hK => ?_)
    go_simp
    refine (eseveral_nil 59 eand_nil (enters_rdF 1) _ _ _ _ _).mono ?_
    rintro e w5 ⟨rfl, hb5⟩
    go_wp2
    exact ⟨rfl, rfl, (HB2.out.alloc _).call hb5⟩
  focus
    refine sc_call' rfl (fun K hK => ?_); go_simp; refine hK.out _ _ ((kept_of hHeld ((Bl.refl _).alloc _))) (fun hHeld2 => ?_); clear hHeld hK K; have hHeld := hHeld2; clear hHeld2
    refine sc_call' rfl (fun K hK => ?_); go_simp; ((with_reducible refine (elevels_any _).mono ?_); rintro e w2 ⟨rfl, hb2⟩; have HB2 := Lib.hid (((HB0.out.call HWD.out).alloc _).call hb2)); go_wp2_with fail; refine hK.out _ _ ((kept_of hHeld hb2)) (fun hHeld2 => ?_); clear hHeld hK K; have hHeld := hHeld2; clear hHeld2
    refine sc_take' rfl (by rfl) (by intro w hSw; (try dsimp only at hSw); have a0 := cells1 hSw; go_simp; (try (first | with_reducible rfl | rfl))) ?_; (try simp only [Act.put, List.setIfInBounds_toArray, List.set_cons_zero, List.set_cons_succ])
    refine sc_call' rfl (fun K hK => ?_)
    go_simp
    refine (eseveral_nil 59 eand_nil (enters_rdF 1) _ _ _ _ _).mono ?_
    rintro e w5 ⟨rfl, hb5⟩
    go_wp2
    exact ⟨rfl, rfl, HB2.out.call hb5⟩
--END1
--BEGIN2
set_option maxHeartbeats 2000000 in
theorem eRead1_nil {A : World} {X Sb Wb : Nat} {x0 x1 x2 x3 x4 x5 x6 x7 : Value} (hX : A.heap[X]? = some (.cells #[x0, x1, x2, x3, x4, x5, x6, x7] 30 (0, 0))) (hS : A.heap[Sb]? = some (.cells #[.pointer none] 39 (0, 0))) (hW : A.heap[Wb]? = some (.cells #[.int .i64 0] 3 (0, 0)))
    (h1 : X ≠ Sb) (h2 : X ≠ Wb) :
    Calls Tryz.prog 35 #[.pointer (some ⟨X, 0, none⟩), .pointer (some ⟨Sb, 0, none⟩), .pointer (some ⟨Wb, 0, none⟩)] A fun e w' => e = .returned (.tuple #[]) ∧ setZ A X = w' := by
  obtain ⟨⟨e0, e1, e2, e3, e4, e5, e6, e7⟩, f0, f1, f2, f3, f4, f5, f6, f7⟩ := eight hX
  have c1 := cells1 hS
  have c2 := cells1 hW
  have d1 := cells1 ((set8_other A (Ne.symm h1) (.int .i64 0) (.int .i64 0) (.int .i64 0) (S []) (S []) (S []) (.int .i64 0) (.slice none 0 0)).trans hS)
  have d2 := cells1 ((set8_other A (Ne.symm h2) (.int .i64 0) (.int .i64 0) (.int .i64 0) (S []) (S []) (S []) (.int .i64 0) (.slice none 0 0)).trans hW)
  clear hX hS hW
  go_enter Tryz.func35, Tryz.ntmps35
  go_wp2_with fail
  (with_reducible refine (tBack_none (W := _) (p := none) (by unfold NoStr; exact Or.inl rfl)).mono ?_)
  rintro e w' ⟨rfl, rfl⟩
  go_wp2
  go_end0
  exact ⟨rfl, rfl⟩
set_option maxHeartbeats 4000000 in
/-- Read of no stream. -/
theorem eRead_nil (W : World) : Calls Tryz.prog 14 #[.pointer none] W fun e w' => e = .returned (.tuple #[zV, .int .i64 261]) ∧ Bl W w' := by
  have hmf : ∀ (fn : Fn) (first cap : Array Value) (w : World), (Instr.makeFunc fn first cap).run Tryz.prog w = .ok (.func fn first cap) w := fun _ _ _ _ => rfl
  have HB0 := Lib.hid (((Bl.refl W).alloc (.cells #[.pointer none] 39)).alloc (.cells zC 30) |>.alloc (.cells #[.int .i64 0] 31) |>.alloc (.cells #[.int .i64 0] 3))
  have HS0 := Lib.hid ((heap_old (((W.alloc (.cells #[.pointer none] 39)).alloc (.cells zC 30)).alloc (.cells #[.int .i64 0] 31)) (.cells #[.int .i64 0] 3) (by simp <;> omega)).trans (three_0 W (.cells #[.pointer none] 39) (.cells zC 30) (.cells #[.int .i64 0] 31)))
  have HX0 := Lib.hid ((heap_old (((W.alloc (.cells #[.pointer none] 39)).alloc (.cells zC 30)).alloc (.cells #[.int .i64 0] 31)) (.cells #[.int .i64 0] 3) (by simp <;> omega)).trans (three_1 W (.cells #[.pointer none] 39) (.cells zC 30) (.cells #[.int .i64 0] 31)))
  have HE0 := Lib.hid ((heap_old (((W.alloc (.cells #[.pointer none] 39)).alloc (.cells zC 30)).alloc (.cells #[.int .i64 0] 31)) (.cells #[.int .i64 0] 3) (by simp)).trans (heap_new' ((W.alloc (.cells #[.pointer none] 39)).alloc (.cells zC 30)) (.cells #[.int .i64 0] 31) (k := W.heap.size + 2) (by simp)))
  have HW0 := Lib.hid (heap_new' (((W.alloc (.cells #[.pointer none] 39)).alloc (.cells zC 30)).alloc (.cells #[.int .i64 0] 31)) (.cells #[.int .i64 0] 3) (k := W.heap.size + 3) (by simp))
  have HQ : Hid (∀ (c : _) (a : Act) (d : Nat) (v : Value) (w : World), 8 ≤ d → Leaves Tryz.prog Tryz.f14 (a.put (some d) v).tmps (fun e w' => e = .returned (.tuple #[zV, .int .i64 261]) ∧ Bl W w') (a.put (some d) v).defers (.panicking c) w → Leaves Tryz.prog Tryz.f14 a.tmps (fun e w' => e = .returned (.tuple #[zV, .int .i64 261]) ∧ Bl W w') a.defers (.panicking c) w) := fun c a d v w hd h => by
    rw [leaves_res (eRead_res a d v hd)] at h
    exact h
  go_enter_defers Tryz.func14, Tryz.ntmps14
  go_wp2_with fail
  (with_reducible refine (tAt_none (W := _) (p := none) (by unfold NoStr; exact Or.inl rfl)).mono ?_)
  rintro e w1 ⟨rfl, rfl⟩
  go_wp2_with fail
  refine (wp_region_sL 8 (fun B => B.heap[W.heap.size]? = some (.cells #[.pointer none] 39 (0, 0))) ((.take 2 (.take 3 (.one 0 (.take 1 (.one 4 (.one 5 (.one 6 .done)))))))) (by kernel_rfl) (by kernel_rfl) (by kernel_rfl) (by kernel_rfl) (fun c a d v w hd h => HQ.out c a d v w hd h) (kept_of HS0.out ((Bl.refl _).drew)) ?_) -- wp_region_sc 
  intro wd HWD hHeld
  refine sc_take' rfl (by rfl) (by intro w hSw; (try dsimp only at hSw); have a0 := cells1 hSw; go_simp; (try (first | with_reducible rfl | rfl))) ?_; (try simp only [Act.put, List.setIfInBounds_toArray, List.set_cons_zero, List.set_cons_succ])
  refine sc_take' rfl (by rfl) (by intro w hSw; (try dsimp only at hSw); have a0 := cells1 hSw; go_simp; (try (first | with_reducible rfl | rfl))) ?_; (try simp only [Act.put, List.setIfInBounds_toArray, List.set_cons_zero, List.set_cons_succ])
  refine sc_call' rfl (fun K hK => ?_); go_simp; ((with_reducible refine (elevels_any _).mono ?_); rintro e w2 ⟨rfl, hb2⟩; have HB2 := Lib.hid (HWD.out.call hb2)); go_wp2_with fail; refine hK.out _ _ ((kept_of hHeld hb2)) (fun hHeld2 => ?_); clear hHeld hK K; have hHeld := hHeld2; clear hHeld2
  refine sc_take' rfl (by rfl) (by intro w hSw; (try dsimp only at hSw); have a0 := cells1 hSw; go_simp; (try (first | with_reducible rfl | rfl))) ?_; (try simp only [Act.put, List.setIfInBounds_toArray, List.set_cons_zero, List.set_cons_succ])
  refine sc_call' rfl (fun K hK => ?_)
  go_simp
  refine (eor_nil _ _).mono ?_
  rintro e w5 ⟨rfl, hb5⟩
  have HB5 := Lib.hid (HB2.out.call hb5)
  have HE5 := Lib.hid (kept_of HE0.out HB5.out)
  have c0 := cells1 HE5.out
  have z0 : w5.frozen? ⟨W.heap.size + 2, 0, none⟩ = false := Lib.frozen_of_heap HE5.out 0
  clear hb5
  go_wp2_with fail
  refine leaves_cons (f := 34) (args := #[.pointer (some ⟨W.heap.size + 2, 0, none⟩), .func (.func 35) #[] #[.pointer (some ⟨W.heap.size + 1, 0, none⟩), .pointer (some ⟨W.heap.size, 0, none⟩), .pointer (some ⟨W.heap.size + 3, 0, none⟩)]]) (by simp) (by simp [go_sem]) ?_
  have hx5 := (heap_set_other w5 ⟨W.heap.size + 2, 0, none⟩ (.int .i64 261) (W.heap.size + 1) (by show W.heap.size + 1 ≠ W.heap.size + 2; omega)).trans (kept_of HX0.out HB5.out)
  have hclear := eRead1_nil (A := w5.setCell ⟨W.heap.size + 2, 0, none⟩ (.int .i64 261)) (X := W.heap.size + 1) (Sb := W.heap.size) (Wb := W.heap.size + 3) hx5 ((heap_set_other _ ⟨W.heap.size + 2, 0, none⟩ _ _ (by show W.heap.size ≠ W.heap.size + 2; omega)).trans (kept_of HS0.out HB5.out)) ((heap_set_other _ ⟨W.heap.size + 2, 0, none⟩ _ _ (by show W.heap.size + 3 ≠ W.heap.size + 2; omega)).trans (kept_of HW0.out HB5.out)) (by omega) (by omega)
  refine (ecaught_panic ⟨W.heap.size + 2, 0, none⟩ 0 261 35 #[] #[.pointer (some ⟨W.heap.size + 1, 0, none⟩), .pointer (some ⟨W.heap.size, 0, none⟩), .pointer (some ⟨W.heap.size + 3, 0, none⟩)] #[.pointer (some ⟨W.heap.size + 1, 0, none⟩), .pointer (some ⟨W.heap.size, 0, none⟩), .pointer (some ⟨W.heap.size + 3, 0, none⟩)] (by simp) w5 _ c0 z0 enters_eRead1 hclear).mono ?_
  rintro e u' w6 ⟨rfl, rfl, rfl⟩
  have hx6 := set8_heap hx5 (.int .i64 0) (.int .i64 0) (.int .i64 0) (S []) (S []) (S []) (.int .i64 0) (.slice none 0 0)
  have he6 := (set8_other (w5.setCell ⟨W.heap.size + 2, 0, none⟩ (.int .i64 261)) (b := W.heap.size + 1) (i := W.heap.size + 2) (by omega) (.int .i64 0) (.int .i64 0) (.int .i64 0) (S []) (S []) (S []) (.int .i64 0) (.slice none 0 0)).trans (set1_heap HE5.out 0 (.int .i64 261))
  obtain ⟨⟨q0, q1, q2, q3, q4, q5, q6, q7⟩, -⟩ := eight hx6
  have r0 := cells1 (x := .int .i64 261) he6
  refine ⟨.tuple #[zV, .int .i64 261], ?_, rfl, bl_set8 (((HB0.out.call HB5.out)).set (p := ⟨W.heap.size + 2, 0, none⟩) (by show W.heap.size ≤ W.heap.size + 2; omega) _) (by omega) _ _ _ _ _ _ _ _⟩
  simp [results, Tryz.results14, go_sem, q0, q1, q2, q3, q4, q5, q6, q7, r0]
--END2

end Go.Proofs.YtepkfkfedmbmnaaGreatDoor

namespace Go.Proofs.YtepkfkfedmbmnaaGreatDoor
open Go.RowKit
set_option maxRecDepth 100000

--BEGIN1
set_option maxHeartbeats 4000000 in
theorem estreams_big (s : List UInt8) (hs : s.length ≤ 9223372036854775807) (hl : 1000 < s.length) (W : World) (hG : Glob W) : Calls Tryz.prog 4 #[S s] W (Yes W) := by
  have HG := Lib.hid hG
  have hl' : 1000 < (s.length : Int) := by omega
  clear hG hl
  go_enter Tryz.func4, Tryz.ntmps4
  go_wp2_with fail
  (with_reducible refine (works16_any _ HG.out).mono ?_)
  rintro e w1 ⟨rfl, hb1⟩
  go_wp2
  go_ret
  exact ⟨rfl, hb1⟩
set_option maxHeartbeats 4000000 in
theorem estreams_bad (s : List UInt8) (hl : s.length ≤ 1000) (h : allErr s ≠ 0) (W : World) (hG : Glob W) : Calls Tryz.prog 4 #[S s] W (Yes W) := by
  have HG := Lib.hid hG
  have hl' : ¬ 1000 < (s.length : Int) := by omega
  have hne : (allErr s != 0) = true := by simpa using h
  have HA := Lib.hid h
  have HL := Lib.hid hl
  clear hG hl h
  go_enter Tryz.func4, Tryz.ntmps4
  go_wp2_with fail
  (with_reducible refine (tNew_bad s (by have := HL.out; omega) HA.out _ HG.out).mono ?_)
  rintro e w1 ⟨rfl, hb1⟩
  have HB1 := Lib.hid hb1
  clear hb1
  go_wp2_with fail
  refine (rAll_all s (by have := HL.out; omega) _).mono ?_
  rintro e w2 ⟨v, rfl, hb2, -⟩
  have HB2 := Lib.hid (HB1.out.call hb2)
  clear hb2
  generalize allErr s = z at *
  go_wp2_with fail
  (with_reducible refine (num16_any _ _).mono ?_)
  rintro e w' ⟨rfl, rfl⟩
  go_wp2_with fail
  (with_reducible refine (works16_any _ (HG.out.bl HB2.out)).mono ?_)
  rintro e w3 ⟨rfl, hb3⟩
  go_wp2
  go_ret
  exact ⟨rfl, HB2.out.call hb3⟩
--END1

--BEGIN2
set_option maxHeartbeats 8000000 in
theorem estreams_good (s : List UInt8) (hl : s.length ≤ 1000) (ts : List Tok) (ht : toksO s = some ts) (W : World) (hG : Glob W) : Calls Tryz.prog 4 #[S s] W (Yes W) := by
  have HG := Lib.hid hG
  have hl' : ¬ 1000 < (s.length : Int) := by omega
  have HTS := Lib.hid ht
  have HT := Lib.hid (tok_ok ht)
  have HL := Lib.hid hl
  have hfew : (ts ++ [endTok s.length]).length ≤ 100000 := by have := few_toks ht; simp; omega
  clear hG hl ht
  go_enter Tryz.func4, Tryz.ntmps4
  go_wp2_with fail
  (with_reducible refine (tNew_good s (by have := HL.out; omega) ts HTS.out _ HG.out).mono ?_)
  rintro e w1 ⟨bs, g, cap, rfl, hb1, hbs, hgs, hs1⟩
  have HB1 := Lib.hid hb1
  have HS1 := Lib.hid hs1
  clear hb1 hs1
  go_wp2_with fail
  refine (xAll_good s (by have := HL.out; omega) ts HTS.out _).mono ?_
  rintro e w2 ⟨g2, cap2, rfl, hb2, hrow⟩
  have HB2 := Lib.hid (HB1.out.call hb2)
  have HS2 := Lib.hid (HS1.out.bl hb2)
  have HR2 := Lib.hid hrow
  have hbl2 := HS2.out.lt'
  have hgq2 := HS2.out.gl
  have hWq := HB2.out.size
  clear hb2 hrow HL HTS
  generalize ts ++ [endTok s.length] = tl at *
  have hpos : 0 < tl.length := HS2.out.lt
  have hgl2 : g2 < w2.heap.size := World.block_lt_of_cell? _ _ (HR2.out 0 hpos).1
  have hgb : g2 ≠ bs := by
    rintro rfl
    have h1 := (cells2 HS2.out.own).1
    rw [(HR2.out 0 hpos).1] at h1
    cases h1
  go_wp2_with fail
  go_loopw [8] (fun i wr => ∃ (j kk : Nat), i = .int .i64 (j : Int) ∧ j ≤ 40 ∧ Hid (Bl W wr) ∧ Hid (Strm wr bs g cap tl kk) ∧ Hid (Row wr g2 tl) ∧ Hid (wr.heap[w2.heap.size]? = some (.cells #[.slice (some ⟨g2, 0, none⟩) tl.length cap2, .int .i64 (kk : Int)] 46 (0, 0)))) (fun i _ => 40 - (intOf i).toNat)
  case atStart => exact ⟨0, 0, rfl, by omega, HB2.out.alloc _, HS2.out.bl ((Bl.refl _).alloc _), HR2.out.bl ((Bl.refl _).alloc _), heap_new w2 _⟩
  case round =>
    clear HS1 HS2 HR2 HB1 HB2
    obtain ⟨j, kk, rfl, hj, HB, HS, HR, HQ⟩ := hrel
    by_cases hlt : j < 40
    · have hlt' : (j : Int) < 40 := by omega
      have hzq := (Array.getElem?_eq_some_iff.1 HQ.out).1
      go_wp2_with fail
      refine (eRead_any HS.out HT.out).mono ?_
      rintro e w3 ⟨hg3, hcase⟩
      have HB3 := Lib.hid (bl_grown HB.out hg3 hbs)
      have HQ3 := Lib.hid ((hg3.block _ hzq (fun e => by injection e with e; omega)).trans HQ.out)
      have HR3 := Lib.hid (HR.out.block (hg3.block g2 (by omega) (fun e => by injection e with e; omega)))
      have hz3 := (Array.getElem?_eq_some_iff.1 HQ3.out).1
      clear hg3
      rcases hcase with ⟨k', x, v, hr, hs3, ⟨sv, rfl, hA⟩, rfl⟩ | ⟨c, hc, hr, hs3, rfl⟩
      · have HV3 := Lib.hid (show ReadsE w3 x (EV x.k x.v x.t x.n x.o sv) from ⟨sv, rfl, hA.reads⟩)
        have HP := Lib.hid (show partsE x ≤ 1000000 from by
          have hm := run_parts HT.out (steps tl) (.rd 0 kk 0) HS.out.lt
          unfold readR at hr
          rw [hr] at hm
          have h1 := hm.1
          have h2 := hm.2
          simp only [Job.at, Job.made] at h1 h2
          omega)
        have HRR := Lib.hid hr
        have HS3 := Lib.hid hs3
        obtain ⟨a, c, rfl⟩ := hA.shape
        clear hA hr hs3
        obtain ⟨yk, ⟨y1, y2, y3⟩, yt, yn, yo, ya⟩ := x
        simp only [Ex.k, Ex.v, Ex.t, Ex.n, Ex.o, Ex.args] at HV3 ⊢
        obtain ⟨q0, q1, -, -, -⟩ := cells2 HQ3.out
        go_wp2_with fail
        refine (xRead_any (HR3.out.bl ((Bl.refl w3).alloc _)) HT.out hfew HS.out.lt).mono ?_
        intro e w4 hh
        unfold RRPost at hh
        rw [HRR.out] at hh
        obtain ⟨v', hk', ⟨sv', rfl, hA'⟩, rfl, hb4⟩ := hh
        have HV4 := Lib.hid (show ReadsE w4 (.mk yk (y1, y2, y3) yt yn yo ya) (EV yk (y1, y2, y3) yt yn yo sv') from ⟨sv', rfl, hA'.reads⟩)
        obtain ⟨a', c', rfl⟩ := hA'.shape
        simp only [Ex.k, Ex.v, Ex.t, Ex.n, Ex.o, Ex.args] at HV4 ⊢
        have HB34 := Lib.hid (((Bl.refl w3).alloc (.cells #[.int .i64 yk, .int .i64 y1, .int .i64 y2, S y3, S yt, S yn, .int .i64 yo, .slice a ya.length c] 30)).call hb4)
        have HX4 := Lib.hid ((hb4.block w3.heap.size (by simp)).trans (heap_new w3 (.cells #[.int .i64 yk, .int .i64 y1, .int .i64 y2, S y3, S yt, S yn, .int .i64 yo, .slice a ya.length c] 30)))
        have HQ4 := Lib.hid ((HB34.out.block _ hz3).trans HQ3.out)
        have HR4 := Lib.hid (HR3.out.bl HB34.out)
        have HS4 := Lib.hid (HS3.out.bl HB34.out)
        have HV34 := Lib.hid (HV3.out.bl HB34.out)
        clear hA' hb4 q0 q1
        obtain ⟨q0, q1, z0, z1, hq4⟩ := cells2 HQ4.out
        go_wp2_with fail
        have hgq : w4.grownBy (set2 w4 w2.heap.size (.slice (some ⟨g2, 0, none⟩) tl.length cap2) (.int .i64 (k' : Int))) (some w2.heap.size) := grown_trans (grown_set _ _ _) (grown_set _ _ _)
        have hba := ((Bl.refl (set2 w4 w2.heap.size (.slice (some ⟨g2, 0, none⟩) tl.length cap2) (.int .i64 (k' : Int)))).alloc (.cells #[.slice (some ⟨g2, 0, none⟩) tl.length cap2, .int .i64 (k' : Int)] 46)).alloc (.cells #[.int .i64 yk, .int .i64 y1, .int .i64 y2, S y3, S yt, S yn, .int .i64 yo, .slice a' ya.length c'] 30)
        have hz4 := (Array.getElem?_eq_some_iff.1 HX4.out).1
        have HX6 := Lib.hid (kept_of ((set2_other w4 (b := w2.heap.size) (i := w3.heap.size) (by omega) (.slice (some ⟨g2, 0, none⟩) tl.length cap2) (.int .i64 (k' : Int))).trans HX4.out) hba)
        have HQ6 := Lib.hid (kept_of (set2_heap HQ4.out (.slice (some ⟨g2, 0, none⟩) tl.length cap2) (.int .i64 (k' : Int))) hba)
        have HY6 := Lib.hid (heap_new' ((set2 w4 w2.heap.size (.slice (some ⟨g2, 0, none⟩) tl.length cap2) (.int .i64 (k' : Int))).alloc (.cells #[.slice (some ⟨g2, 0, none⟩) tl.length cap2, .int .i64 (k' : Int)] 46)) (.cells #[.int .i64 yk, .int .i64 y1, .int .i64 y2, S y3, S yt, S yn, .int .i64 yo, .slice a' ya.length c'] 30) (k := w4.heap.size + 1) (by simp))
        have HS6 := Lib.hid ((HS4.out.keep (set2_other _ (by omega) _ _) (set2_other _ (by omega) _ _)).bl hba)
        have HR6 := Lib.hid ((HR4.out.block (set2_other _ (by omega) _ _)).bl hba)
        have HV6 := Lib.hid (And.intro ((HV34.out.grown HQ4.out hgq).bl hba) ((HV4.out.grown HQ4.out hgq).bl hba))
        have HB6 := Lib.hid ((bl_set2 (HB3.out.call HB34.out) hWq (.slice (some ⟨g2, 0, none⟩) tl.length cap2) (.int .i64 (k' : Int))).call hba)
        clear q0 q1 z0 z1 hgq hba
        generalize ((set2 w4 w2.heap.size (.slice (some ⟨g2, 0, none⟩) tl.length cap2) (.int .i64 (k' : Int))).alloc (.cells #[.slice (some ⟨g2, 0, none⟩) tl.length cap2, .int .i64 (k' : Int)] 46)).alloc (.cells #[.int .i64 yk, .int .i64 y1, .int .i64 y2, S y3, S yt, S yn, .int .i64 yo, .slice a' ya.length c'] 30) = w6 at *
        have HSM := Lib.hid (fun (B : World) (hb : Bl w6 B) => by
          have h := xSame_any _ _ (.mk yk (y1, y2, y3) yt yn yo ya) (Nat.le_refl _) HP.out B _ _ (HV6.out.1.bl hb) (HV6.out.2.bl hb)
          rw [same_self] at h
          exact h)
        refine wp_region_noPanic (wp_region_sd (fun B => B.heap[w3.heap.size]? = some (.cells #[.int .i64 yk, .int .i64 y1, .int .i64 y2, S y3, S yt, S yn, .int .i64 yo, .slice a ya.length c] 30 (0, 0)) ∧ B.heap[w4.heap.size + 1]? = some (.cells #[.int .i64 yk, .int .i64 y1, .int .i64 y2, S y3, S yt, S yn, .int .i64 yo, .slice a' ya.length c'] 30 (0, 0)) ∧ B.heap[w2.heap.size]? = some (.cells #[.slice (some ⟨g2, 0, none⟩) tl.length cap2, .int .i64 (k' : Int)] 46 (0, 0))) ((.take 0 (.take 1 (.one 2 (.take 3 (.take 4 (.take 5 (.take 7 (.one 6 (.take 8 (.take 9 (.take 10 (.take 11 (.take 13 (.take 14 (.one 12 (.take 15 (.take 16 .done)))))))))))))))))) (by kernel_rfl) (by kernel_rfl) (by kernel_rfl) (fun _ _ _ _ _ h => h) (⟨HX6.out, HY6.out, HQ6.out⟩) ?_) -- wp_region_sc 
        intro wd HWD hHeld
        refine sc_take' rfl (by rfl) (by intro w hSw; (try dsimp only at hSw); obtain ⟨⟨e0, e1, e2, e3, e4, e5, e6, e7⟩, -⟩ := eight hSw.1; obtain ⟨⟨i0, i1, i2, i3, i4, i5, i6, i7⟩, -⟩ := eight hSw.2.1; obtain ⟨r0, r1, -, -, -⟩ := cells2 hSw.2.2; go_simp; (try (first | with_reducible rfl | rfl))) ?_; (try simp only [Act.put, List.setIfInBounds_toArray, List.set_cons_zero, List.set_cons_succ])
        refine sc_take' rfl (by rfl) (by intro w hSw; (try dsimp only at hSw); obtain ⟨⟨e0, e1, e2, e3, e4, e5, e6, e7⟩, -⟩ := eight hSw.1; obtain ⟨⟨i0, i1, i2, i3, i4, i5, i6, i7⟩, -⟩ := eight hSw.2.1; obtain ⟨r0, r1, -, -, -⟩ := cells2 hSw.2.2; go_simp; (try (first | with_reducible rfl | rfl))) ?_; (try simp only [Act.put, List.setIfInBounds_toArray, List.set_cons_zero, List.set_cons_succ])
        refine sc_call' rfl (fun K hK => ?_); go_simp; (refine (HSM.out _ HWD.out).mono ?_; rintro e w7 ⟨rfl, hb7⟩); go_wp2_with fail; refine hK.out _ _ ((by first | exact hHeld | exact ⟨kept_of hHeld.1 hb7, kept_of hHeld.2.1 hb7, kept_of hHeld.2.2 hb7⟩)) (fun hHeld2 => ?_); clear hHeld hK K; have hHeld := hHeld2; clear hHeld2
        refine sc_take' rfl (by rfl) (by intro w hSw; (try dsimp only at hSw); obtain ⟨⟨e0, e1, e2, e3, e4, e5, e6, e7⟩, -⟩ := eight hSw.1; obtain ⟨⟨i0, i1, i2, i3, i4, i5, i6, i7⟩, -⟩ := eight hSw.2.1; obtain ⟨r0, r1, -, -, -⟩ := cells2 hSw.2.2; go_simp; (try (first | with_reducible rfl | rfl))) ?_; (try simp only [Act.put, List.setIfInBounds_toArray, List.set_cons_zero, List.set_cons_succ])
        refine sc_take' rfl (by rfl) (by intro w hSw; (try dsimp only at hSw); obtain ⟨⟨e0, e1, e2, e3, e4, e5, e6, e7⟩, -⟩ := eight hSw.1; obtain ⟨⟨i0, i1, i2, i3, i4, i5, i6, i7⟩, -⟩ := eight hSw.2.1; obtain ⟨r0, r1, -, -, -⟩ := cells2 hSw.2.2; go_simp; (try (first | with_reducible rfl | rfl))) ?_; (try simp only [Act.put, List.setIfInBounds_toArray, List.set_cons_zero, List.set_cons_succ])
        refine sc_take' rfl (by rfl) (by intro w hSw; (try dsimp only at hSw); obtain ⟨⟨e0, e1, e2, e3, e4, e5, e6, e7⟩, -⟩ := eight hSw.1; obtain ⟨⟨i0, i1, i2, i3, i4, i5, i6, i7⟩, -⟩ := eight hSw.2.1; obtain ⟨r0, r1, -, -, -⟩ := cells2 hSw.2.2; go_simp; (try (first | with_reducible rfl | rfl))) ?_; (try simp only [Act.put, List.setIfInBounds_toArray, List.set_cons_zero, List.set_cons_succ])
        refine sc_take' rfl (by rfl) (by intro w hSw; (try dsimp only at hSw); obtain ⟨⟨e0, e1, e2, e3, e4, e5, e6, e7⟩, -⟩ := eight hSw.1; obtain ⟨⟨i0, i1, i2, i3, i4, i5, i6, i7⟩, -⟩ := eight hSw.2.1; obtain ⟨r0, r1, -, -, -⟩ := cells2 hSw.2.2; go_simp; (try (first | with_reducible rfl | rfl))) ?_; (try simp only [Act.put, List.setIfInBounds_toArray, List.set_cons_zero, List.set_cons_succ])
        refine sc_call' rfl (fun K hK => ?_); go_simp; ((with_reducible refine (num16_any _ _).mono ?_); rintro e w8 ⟨rfl, rfl⟩); go_wp2_with fail; refine hK.out _ _ ((by first | exact hHeld | exact ⟨kept_of hHeld.1 hb7, kept_of hHeld.2.1 hb7, kept_of hHeld.2.2 hb7⟩)) (fun hHeld2 => ?_); clear hHeld hK K; have hHeld := hHeld2; clear hHeld2
        refine sc_take' rfl (by rfl) (by intro w hSw; (try dsimp only at hSw); obtain ⟨⟨e0, e1, e2, e3, e4, e5, e6, e7⟩, -⟩ := eight hSw.1; obtain ⟨⟨i0, i1, i2, i3, i4, i5, i6, i7⟩, -⟩ := eight hSw.2.1; obtain ⟨r0, r1, -, -, -⟩ := cells2 hSw.2.2; go_simp; (try (first | with_reducible rfl | rfl))) ?_; (try simp only [Act.put, List.setIfInBounds_toArray, List.set_cons_zero, List.set_cons_succ])
        refine sc_take' rfl (by rfl) (by intro w hSw; (try dsimp only at hSw); obtain ⟨⟨e0, e1, e2, e3, e4, e5, e6, e7⟩, -⟩ := eight hSw.1; obtain ⟨⟨i0, i1, i2, i3, i4, i5, i6, i7⟩, -⟩ := eight hSw.2.1; obtain ⟨r0, r1, -, -, -⟩ := cells2 hSw.2.2; go_simp; (try (first | with_reducible rfl | rfl))) ?_; (try simp only [Act.put, List.setIfInBounds_toArray, List.set_cons_zero, List.set_cons_succ])
        refine sc_take' rfl (by rfl) (by intro w hSw; (try dsimp only at hSw); obtain ⟨⟨e0, e1, e2, e3, e4, e5, e6, e7⟩, -⟩ := eight hSw.1; obtain ⟨⟨i0, i1, i2, i3, i4, i5, i6, i7⟩, -⟩ := eight hSw.2.1; obtain ⟨r0, r1, -, -, -⟩ := cells2 hSw.2.2; go_simp; (try (first | with_reducible rfl | rfl))) ?_; (try simp only [Act.put, List.setIfInBounds_toArray, List.set_cons_zero, List.set_cons_succ])
        refine sc_take' rfl (by rfl) (by intro w hSw; (try dsimp only at hSw); obtain ⟨⟨e0, e1, e2, e3, e4, e5, e6, e7⟩, -⟩ := eight hSw.1; obtain ⟨⟨i0, i1, i2, i3, i4, i5, i6, i7⟩, -⟩ := eight hSw.2.1; obtain ⟨r0, r1, -, -, -⟩ := cells2 hSw.2.2; go_simp; (try (first | with_reducible rfl | rfl))) ?_; (try simp only [Act.put, List.setIfInBounds_toArray, List.set_cons_zero, List.set_cons_succ])
        refine sc_take' rfl (by rfl) (by intro w hSw; (try dsimp only at hSw); obtain ⟨⟨e0, e1, e2, e3, e4, e5, e6, e7⟩, -⟩ := eight hSw.1; obtain ⟨⟨i0, i1, i2, i3, i4, i5, i6, i7⟩, -⟩ := eight hSw.2.1; obtain ⟨r0, r1, -, -, -⟩ := cells2 hSw.2.2; go_simp; (try (first | with_reducible rfl | rfl))) ?_; (try simp only [Act.put, List.setIfInBounds_toArray, List.set_cons_zero, List.set_cons_succ])
        refine sc_take' rfl (by rfl) (by intro w hSw; (try dsimp only at hSw); obtain ⟨⟨e0, e1, e2, e3, e4, e5, e6, e7⟩, -⟩ := eight hSw.1; obtain ⟨⟨i0, i1, i2, i3, i4, i5, i6, i7⟩, -⟩ := eight hSw.2.1; obtain ⟨r0, r1, -, -, -⟩ := cells2 hSw.2.2; go_simp; (try (first | with_reducible rfl | rfl))) ?_; (try simp only [Act.put, List.setIfInBounds_toArray, List.set_cons_zero, List.set_cons_succ])
        refine sc_call' rfl (fun K hK => ?_); go_simp; ((with_reducible refine (tAt_any (HS6.out.bl (HWD.out.call hb7))).mono ?_); rintro e w9 ⟨rfl, rfl⟩); go_wp2_with fail; refine hK.out _ _ ((by first | exact hHeld | exact ⟨kept_of hHeld.1 hb7, kept_of hHeld.2.1 hb7, kept_of hHeld.2.2 hb7⟩)) (fun hHeld2 => ?_); clear hHeld hK K; have hHeld := hHeld2; clear hHeld2
        refine sc_take' rfl (by rfl) (by intro w hSw; (try dsimp only at hSw); obtain ⟨⟨e0, e1, e2, e3, e4, e5, e6, e7⟩, -⟩ := eight hSw.1; obtain ⟨⟨i0, i1, i2, i3, i4, i5, i6, i7⟩, -⟩ := eight hSw.2.1; obtain ⟨r0, r1, -, -, -⟩ := cells2 hSw.2.2; go_simp; (try (first | with_reducible rfl | rfl))) ?_; (try simp only [Act.put, List.setIfInBounds_toArray, List.set_cons_zero, List.set_cons_succ])
        refine sc_take' rfl (by rfl) (by intro w hSw; (try dsimp only at hSw); obtain ⟨⟨e0, e1, e2, e3, e4, e5, e6, e7⟩, -⟩ := eight hSw.1; obtain ⟨⟨i0, i1, i2, i3, i4, i5, i6, i7⟩, -⟩ := eight hSw.2.1; obtain ⟨r0, r1, -, -, -⟩ := cells2 hSw.2.2; go_simp; (try (first | with_reducible rfl | rfl))) ?_; (try simp only [Act.put, List.setIfInBounds_toArray, List.set_cons_zero, List.set_cons_succ])
        refine sc_nil (NoPanic.normal ?_)
        go_wp2
        go_roundw
        case rel => exact ⟨j + 1, k', by go_num, by omega, HB6.out.call (HWD.out.call hb7), HS6.out.bl (HWD.out.call hb7), HR6.out.bl (HWD.out.call hb7), hHeld.2.2⟩
        case measure => simp [intOf]; omega
      · have HS3 := Lib.hid hs3
        have HRR := Lib.hid hr
        clear hs3 hr
        rcases hc with rfl | rfl
        all_goals
          have HV3 := Lib.hid (show ReadsE w3 zeroE zV from readsE_zero _)
          have HP := Lib.hid (show partsE zeroE ≤ 1000000 from by unfold zeroE; simp only [partsE, partssE]; omega)
          obtain ⟨q0, q1, -, -, -⟩ := cells2 HQ3.out
          go_wp2_with fail
          refine (xRead_any (HR3.out.bl ((Bl.refl w3).alloc _)) HT.out hfew HS.out.lt).mono ?_
          intro e w4 hh
          unfold RRPost at hh
          rw [HRR.out] at hh
          obtain ⟨-, rfl, hb4⟩ := hh
          have HB34 := Lib.hid (((Bl.refl w3).alloc (.cells zC 30)).call hb4)
          have HX4 := Lib.hid ((hb4.block w3.heap.size (by simp)).trans (heap_new w3 (.cells zC 30)))
          have HQ4 := Lib.hid ((HB34.out.block _ hz3).trans HQ3.out)
          have HR4 := Lib.hid (HR3.out.bl HB34.out)
          have HS4 := Lib.hid (HS3.out.bl HB34.out)
          have HV34 := Lib.hid (HV3.out.bl HB34.out)
          have HV4 := Lib.hid (show ReadsE w4 zeroE zV from readsE_zero _)
          clear hb4 q0 q1
          obtain ⟨q0, q1, z0, z1, hq4⟩ := cells2 HQ4.out
          go_wp2_with fail
          have hgq : w4.grownBy (set2 w4 w2.heap.size (.slice (some ⟨g2, 0, none⟩) tl.length cap2) (.int .i64 (kk : Int))) (some w2.heap.size) := grown_trans (grown_set _ _ _) (grown_set _ _ _)
          have hba := ((Bl.refl (set2 w4 w2.heap.size (.slice (some ⟨g2, 0, none⟩) tl.length cap2) (.int .i64 (kk : Int)))).alloc (.cells #[.slice (some ⟨g2, 0, none⟩) tl.length cap2, .int .i64 (kk : Int)] 46)).alloc (.cells #[.int .i64 0, .int .i64 0, .int .i64 0, S [], S [], S [], .int .i64 0, .slice none 0 0] 30)
          have hz4 := (Array.getElem?_eq_some_iff.1 HX4.out).1
          have HX6 := Lib.hid (kept_of ((set2_other w4 (b := w2.heap.size) (i := w3.heap.size) (by omega) (.slice (some ⟨g2, 0, none⟩) tl.length cap2) (.int .i64 (kk : Int))).trans HX4.out) hba)
          have HQ6 := Lib.hid (kept_of (set2_heap HQ4.out (.slice (some ⟨g2, 0, none⟩) tl.length cap2) (.int .i64 (kk : Int))) hba)
          have HY6 := Lib.hid (heap_new' ((set2 w4 w2.heap.size (.slice (some ⟨g2, 0, none⟩) tl.length cap2) (.int .i64 (kk : Int))).alloc (.cells #[.slice (some ⟨g2, 0, none⟩) tl.length cap2, .int .i64 (kk : Int)] 46)) (.cells #[.int .i64 0, .int .i64 0, .int .i64 0, S [], S [], S [], .int .i64 0, .slice none 0 0] 30) (k := w4.heap.size + 1) (by simp))
          have HS6 := Lib.hid ((HS4.out.keep (set2_other _ (by omega) _ _) (set2_other _ (by omega) _ _)).bl hba)
          have HR6 := Lib.hid ((HR4.out.block (set2_other _ (by omega) _ _)).bl hba)
          have HV6 := Lib.hid (And.intro ((HV34.out.grown HQ4.out hgq).bl hba) ((HV4.out.grown HQ4.out hgq).bl hba))
          have HB6 := Lib.hid ((bl_set2 (HB3.out.call HB34.out) hWq (.slice (some ⟨g2, 0, none⟩) tl.length cap2) (.int .i64 (kk : Int))).call hba)
          clear q0 q1 z0 z1 hgq hba
          generalize ((set2 w4 w2.heap.size (.slice (some ⟨g2, 0, none⟩) tl.length cap2) (.int .i64 (kk : Int))).alloc (.cells #[.slice (some ⟨g2, 0, none⟩) tl.length cap2, .int .i64 (kk : Int)] 46)).alloc (.cells #[.int .i64 0, .int .i64 0, .int .i64 0, S [], S [], S [], .int .i64 0, .slice none 0 0] 30) = w6 at *
          have HSM := Lib.hid (fun (B : World) (hb : Bl w6 B) => by
            have h := xSame_any _ _ zeroE (Nat.le_refl _) HP.out B _ _ (HV6.out.1.bl hb) (HV6.out.2.bl hb)
            rw [same_self] at h
            exact h)
          refine wp_region_noPanic (wp_region_sd (fun B => B.heap[w3.heap.size]? = some (.cells #[.int .i64 0, .int .i64 0, .int .i64 0, S [], S [], S [], .int .i64 0, .slice none 0 0] 30 (0, 0)) ∧ B.heap[w4.heap.size + 1]? = some (.cells #[.int .i64 0, .int .i64 0, .int .i64 0, S [], S [], S [], .int .i64 0, .slice none 0 0] 30 (0, 0)) ∧ B.heap[w2.heap.size]? = some (.cells #[.slice (some ⟨g2, 0, none⟩) tl.length cap2, .int .i64 (kk : Int)] 46 (0, 0))) ((.take 0 (.take 1 (.one 2 (.take 3 (.take 4 (.take 5 (.take 7 (.one 6 (.take 8 (.take 9 (.take 10 (.take 11 (.take 13 (.take 14 (.one 12 (.take 15 (.take 16 .done)))))))))))))))))) (by kernel_rfl) (by kernel_rfl) (by kernel_rfl) (fun _ _ _ _ _ h => h) (⟨HX6.out, HY6.out, HQ6.out⟩) ?_) -- wp_region_sc 
          intro wd HWD hHeld
          refine sc_take' rfl (by rfl) (by intro w hSw; (try dsimp only at hSw); obtain ⟨⟨e0, e1, e2, e3, e4, e5, e6, e7⟩, -⟩ := eight hSw.1; obtain ⟨⟨i0, i1, i2, i3, i4, i5, i6, i7⟩, -⟩ := eight hSw.2.1; obtain ⟨r0, r1, -, -, -⟩ := cells2 hSw.2.2; go_simp; (try (first | with_reducible rfl | rfl))) ?_; (try simp only [Act.put, List.setIfInBounds_toArray, List.set_cons_zero, List.set_cons_succ])
          refine sc_take' rfl (by rfl) (by intro w hSw; (try dsimp only at hSw); obtain ⟨⟨e0, e1, e2, e3, e4, e5, e6, e7⟩, -⟩ := eight hSw.1; obtain ⟨⟨i0, i1, i2, i3, i4, i5, i6, i7⟩, -⟩ := eight hSw.2.1; obtain ⟨r0, r1, -, -, -⟩ := cells2 hSw.2.2; go_simp; (try (first | with_reducible rfl | rfl))) ?_; (try simp only [Act.put, List.setIfInBounds_toArray, List.set_cons_zero, List.set_cons_succ])
          refine sc_call' rfl (fun K hK => ?_); go_simp; (refine (HSM.out _ HWD.out).mono ?_; rintro e w7 ⟨rfl, hb7⟩); go_wp2_with fail; refine hK.out _ _ ((by first | exact hHeld | exact ⟨kept_of hHeld.1 hb7, kept_of hHeld.2.1 hb7, kept_of hHeld.2.2 hb7⟩)) (fun hHeld2 => ?_); clear hHeld hK K; have hHeld := hHeld2; clear hHeld2
          refine sc_take' rfl (by rfl) (by intro w hSw; (try dsimp only at hSw); obtain ⟨⟨e0, e1, e2, e3, e4, e5, e6, e7⟩, -⟩ := eight hSw.1; obtain ⟨⟨i0, i1, i2, i3, i4, i5, i6, i7⟩, -⟩ := eight hSw.2.1; obtain ⟨r0, r1, -, -, -⟩ := cells2 hSw.2.2; go_simp; (try (first | with_reducible rfl | rfl))) ?_; (try simp only [Act.put, List.setIfInBounds_toArray, List.set_cons_zero, List.set_cons_succ])
          refine sc_take' rfl (by rfl) (by intro w hSw; (try dsimp only at hSw); obtain ⟨⟨e0, e1, e2, e3, e4, e5, e6, e7⟩, -⟩ := eight hSw.1; obtain ⟨⟨i0, i1, i2, i3, i4, i5, i6, i7⟩, -⟩ := eight hSw.2.1; obtain ⟨r0, r1, -, -, -⟩ := cells2 hSw.2.2; go_simp; (try (first | with_reducible rfl | rfl))) ?_; (try simp only [Act.put, List.setIfInBounds_toArray, List.set_cons_zero, List.set_cons_succ])
          refine sc_take' rfl (by rfl) (by intro w hSw; (try dsimp only at hSw); obtain ⟨⟨e0, e1, e2, e3, e4, e5, e6, e7⟩, -⟩ := eight hSw.1; obtain ⟨⟨i0, i1, i2, i3, i4, i5, i6, i7⟩, -⟩ := eight hSw.2.1; obtain ⟨r0, r1, -, -, -⟩ := cells2 hSw.2.2; go_simp; (try (first | with_reducible rfl | rfl))) ?_; (try simp only [Act.put, List.setIfInBounds_toArray, List.set_cons_zero, List.set_cons_succ])
          refine sc_take' rfl (by rfl) (by intro w hSw; (try dsimp only at hSw); obtain ⟨⟨e0, e1, e2, e3, e4, e5, e6, e7⟩, -⟩ := eight hSw.1; obtain ⟨⟨i0, i1, i2, i3, i4, i5, i6, i7⟩, -⟩ := eight hSw.2.1; obtain ⟨r0, r1, -, -, -⟩ := cells2 hSw.2.2; go_simp; (try (first | with_reducible rfl | rfl))) ?_; (try simp only [Act.put, List.setIfInBounds_toArray, List.set_cons_zero, List.set_cons_succ])
          refine sc_call' rfl (fun K hK => ?_); go_simp; ((with_reducible refine (num16_any _ _).mono ?_); rintro e w8 ⟨rfl, rfl⟩); go_wp2_with fail; refine hK.out _ _ ((by first | exact hHeld | exact ⟨kept_of hHeld.1 hb7, kept_of hHeld.2.1 hb7, kept_of hHeld.2.2 hb7⟩)) (fun hHeld2 => ?_); clear hHeld hK K; have hHeld := hHeld2; clear hHeld2
          refine sc_take' rfl (by rfl) (by intro w hSw; (try dsimp only at hSw); obtain ⟨⟨e0, e1, e2, e3, e4, e5, e6, e7⟩, -⟩ := eight hSw.1; obtain ⟨⟨i0, i1, i2, i3, i4, i5, i6, i7⟩, -⟩ := eight hSw.2.1; obtain ⟨r0, r1, -, -, -⟩ := cells2 hSw.2.2; go_simp; (try (first | with_reducible rfl | rfl))) ?_; (try simp only [Act.put, List.setIfInBounds_toArray, List.set_cons_zero, List.set_cons_succ])
          refine sc_take' rfl (by rfl) (by intro w hSw; (try dsimp only at hSw); obtain ⟨⟨e0, e1, e2, e3, e4, e5, e6, e7⟩, -⟩ := eight hSw.1; obtain ⟨⟨i0, i1, i2, i3, i4, i5, i6, i7⟩, -⟩ := eight hSw.2.1; obtain ⟨r0, r1, -, -, -⟩ := cells2 hSw.2.2; go_simp; (try (first | with_reducible rfl | rfl))) ?_; (try simp only [Act.put, List.setIfInBounds_toArray, List.set_cons_zero, List.set_cons_succ])
          refine sc_take' rfl (by rfl) (by intro w hSw; (try dsimp only at hSw); obtain ⟨⟨e0, e1, e2, e3, e4, e5, e6, e7⟩, -⟩ := eight hSw.1; obtain ⟨⟨i0, i1, i2, i3, i4, i5, i6, i7⟩, -⟩ := eight hSw.2.1; obtain ⟨r0, r1, -, -, -⟩ := cells2 hSw.2.2; go_simp; (try (first | with_reducible rfl | rfl))) ?_; (try simp only [Act.put, List.setIfInBounds_toArray, List.set_cons_zero, List.set_cons_succ])
          refine sc_take' rfl (by rfl) (by intro w hSw; (try dsimp only at hSw); obtain ⟨⟨e0, e1, e2, e3, e4, e5, e6, e7⟩, -⟩ := eight hSw.1; obtain ⟨⟨i0, i1, i2, i3, i4, i5, i6, i7⟩, -⟩ := eight hSw.2.1; obtain ⟨r0, r1, -, -, -⟩ := cells2 hSw.2.2; go_simp; (try (first | with_reducible rfl | rfl))) ?_; (try simp only [Act.put, List.setIfInBounds_toArray, List.set_cons_zero, List.set_cons_succ])
          refine sc_take' rfl (by rfl) (by intro w hSw; (try dsimp only at hSw); obtain ⟨⟨e0, e1, e2, e3, e4, e5, e6, e7⟩, -⟩ := eight hSw.1; obtain ⟨⟨i0, i1, i2, i3, i4, i5, i6, i7⟩, -⟩ := eight hSw.2.1; obtain ⟨r0, r1, -, -, -⟩ := cells2 hSw.2.2; go_simp; (try (first | with_reducible rfl | rfl))) ?_; (try simp only [Act.put, List.setIfInBounds_toArray, List.set_cons_zero, List.set_cons_succ])
          refine sc_take' rfl (by rfl) (by intro w hSw; (try dsimp only at hSw); obtain ⟨⟨e0, e1, e2, e3, e4, e5, e6, e7⟩, -⟩ := eight hSw.1; obtain ⟨⟨i0, i1, i2, i3, i4, i5, i6, i7⟩, -⟩ := eight hSw.2.1; obtain ⟨r0, r1, -, -, -⟩ := cells2 hSw.2.2; go_simp; (try (first | with_reducible rfl | rfl))) ?_; (try simp only [Act.put, List.setIfInBounds_toArray, List.set_cons_zero, List.set_cons_succ])
          refine sc_call' rfl (fun K hK => ?_); go_simp; ((with_reducible refine (tAt_any (HS6.out.bl (HWD.out.call hb7))).mono ?_); rintro e w9 ⟨rfl, rfl⟩); go_wp2_with fail; refine hK.out _ _ ((by first | exact hHeld | exact ⟨kept_of hHeld.1 hb7, kept_of hHeld.2.1 hb7, kept_of hHeld.2.2 hb7⟩)) (fun hHeld2 => ?_); clear hHeld hK K; have hHeld := hHeld2; clear hHeld2
          refine sc_take' rfl (by rfl) (by intro w hSw; (try dsimp only at hSw); obtain ⟨⟨e0, e1, e2, e3, e4, e5, e6, e7⟩, -⟩ := eight hSw.1; obtain ⟨⟨i0, i1, i2, i3, i4, i5, i6, i7⟩, -⟩ := eight hSw.2.1; obtain ⟨r0, r1, -, -, -⟩ := cells2 hSw.2.2; go_simp; (try (first | with_reducible rfl | rfl))) ?_; (try simp only [Act.put, List.setIfInBounds_toArray, List.set_cons_zero, List.set_cons_succ])
          refine sc_take' rfl (by rfl) (by intro w hSw; (try dsimp only at hSw); obtain ⟨⟨e0, e1, e2, e3, e4, e5, e6, e7⟩, -⟩ := eight hSw.1; obtain ⟨⟨i0, i1, i2, i3, i4, i5, i6, i7⟩, -⟩ := eight hSw.2.1; obtain ⟨r0, r1, -, -, -⟩ := cells2 hSw.2.2; go_simp; (try (first | with_reducible rfl | rfl))) ?_; (try simp only [Act.put, List.setIfInBounds_toArray, List.set_cons_zero, List.set_cons_succ])
          refine sc_nil (NoPanic.normal ?_)
          go_wp2_with fail
          have HB7 := Lib.hid (HWD.out.call hb7)
          have HS7 := Lib.hid (HS6.out.bl HB7.out)
          have HR7 := Lib.hid (HR6.out.bl HB7.out)
          have HQ7 := Lib.hid hHeld.2.2
          have HW7 := Lib.hid (HB6.out.call HB7.out)
          clear hHeld hb7
          (with_reducible refine (tNext_any HS7.out (List.getElem?_eq_getElem HS7.out.lt)).mono ?_)
          rintro e w8 ⟨rfl, hg8, hs8⟩
          have HW8 := Lib.hid (bl_grown HW7.out hg8 hbs)
          have HQ8 := Lib.hid ((hg8.block _ (Array.getElem?_eq_some_iff.1 HQ7.out).1 (fun e => by injection e with e; omega)).trans HQ7.out)
          have HR8 := Lib.hid (HR7.out.block (hg8.block g2 (World.block_lt_of_cell? _ _ (HR7.out 0 hpos).1) (fun e => by injection e with e; omega)))
          have HS8 := Lib.hid hs8
          clear hg8 hs8
          obtain ⟨q0, q1, z0, z1, hq4⟩ := cells2 HQ8.out
          go_wp2_with fail
          (with_reducible refine (rNext_any HS.out.lt hfew).mono ?_)
          rintro e w9 ⟨rfl, hb9⟩
          have HQ9 := Lib.hid (kept_of HQ8.out hb9)
          have HH9 := Lib.hid (And.intro (HW8.out.call hb9) (And.intro (HS8.out.bl hb9) (HR8.out.bl hb9)))
          clear hb9 q0 q1 z0 z1
          obtain ⟨q0, q1, z0, z1, hq9⟩ := cells2 HQ9.out
          go_wp2
          go_roundw
          case rel => exact ⟨j + 1, nextK tl.length kk, by go_num, by omega, bl_set2 HH9.out.1 hWq _ _, HH9.out.2.1.keep (set2_other _ (by omega) _ _) (set2_other _ (by omega) _ _), HH9.out.2.2.block (set2_other _ (by omega) _ _), set2_heap HQ9.out _ _⟩
          case measure => simp [intOf]; omega
    · obtain rfl : j = 40 := by omega
      go_wp2_with fail
      (with_reducible refine (eRead_nil _).mono ?_)
      rintro e w3 ⟨rfl, hb3⟩
      have HB3 := Lib.hid ((HB.out.call hb3).alloc (.cells zC 30))
      clear hb3
      go_wp2_with fail
      (with_reducible refine (num16_any _ _).mono ?_)
      rintro e w' ⟨rfl, rfl⟩
      go_wp2_with fail
      refine (works16_any _ (HG.out.bl HB3.out)).mono ?_
      rintro e w4 ⟨rfl, hb4⟩
      go_wp2
      go_ret
      exact ⟨rfl, HB3.out.call hb4⟩
--END2
theorem estreams_all (s : List UInt8) (hs : s.length ≤ 9223372036854775807) (W : World) (hG : Glob W) : Calls Tryz.prog 4 #[S s] W (Yes W) := by
  by_cases hl : 1000 < s.length
  · exact estreams_big s hs hl W hG
  · by_cases h : allErr s = 0
    · cases ht : toksO s with
      | none =>
        unfold allErr at h
        rw [if_neg (by omega), if_pos ht] at h
        cases h
      | some ts => exact estreams_good s (by omega) ts ht W hG
    · exact estreams_bad s (by omega) h W hG

end Go.Proofs.YtepkfkfedmbmnaaGreatDoor

