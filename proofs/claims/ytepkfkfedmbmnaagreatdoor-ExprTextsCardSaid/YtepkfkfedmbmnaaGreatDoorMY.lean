/- The program's bare. The program's called. The program reads every level; Read. The program's Read. The program's Parse. -/
import Derived.Test.YtepkfkfedmbmnaaGreatDoorMX
import Derived.Test.YtepkfkfedmbmnaaGreatDoorMF
import Derived.Test.YtepkfkfedmbmnaaGreatDoorMK0
import Derived.Test.YtepkfkfedmbmnaaGreatDoorMQ
namespace Go.Proofs.YtepkfkfedmbmnaaGreatDoor
open Go.RowKit
set_option maxRecDepth 100000

theorem set1_heap {w : World} {b : Nat} {cs : Array Value} {t : TypeId} (h : w.heap[b]? = some (.cells cs t (0, 0))) (o : Nat) (v : Value) : (w.setCell ⟨b, o, none⟩ v).heap[b]? = some (.cells (cs.setIfInBounds o v) t (0, 0)) := by
  simp [World.setCell, Array.getElem?_modify, h]
/-- What a kind names of an expression. -/
def bareV (k : Int) (v : Int × Int × List UInt8) (t n : List UInt8) (o : Int) (sv : Value) : Value :=
  if k = 1 then EV 1 v [] [] 0 (.slice none 0 0) else if k = 2 then EV 2 (0, 0, []) t n 0 (.slice none 0 0) else if k = 3 then EV 3 (0, 0, []) [] [] o sv else if k = 5 then EV 5 (0, 0, []) [] n 0 sv else EV k (0, 0, []) [] [] 0 sv
--BEGIN1
set_option maxHeartbeats 4000000 in
theorem ebare_any (k v1 v2 o : Int) (v3 t n : List UInt8) (a : Option Addr) (m c : Nat) (w : World) : Calls Tryz.prog 71 #[EV k (v1, v2, v3) t n o (.slice a m c)] w fun e w' => e = .returned (bareV k (v1, v2, v3) t n o (.slice a m c)) ∧ Bl w w' := by
  by_cases h1 : k = 1
  · subst h1
    have hB : Hid (bareV 1 (v1, v2, v3) t n o (.slice a m c) = EV 1 (v1, v2, v3) [] [] 0 (.slice none 0 0)) := rfl
    go_enter Tryz.func71, Tryz.ntmps71
    go_wp2
    exact bodyPost_ret (v := EV 1 (v1, v2, v3) [] [] 0 (.slice none 0 0)) (by simp [results, Tryz.results71, go_sem]) rfl ⟨by rw [hB.out], (((Bl.refl w).alloc _).alloc _).alloc _⟩
  by_cases h3 : k = 3
  · subst h3
    have hB : Hid (bareV 3 (v1, v2, v3) t n o (.slice a m c) = EV 3 (0, 0, []) [] [] o (.slice a m c)) := rfl
    go_enter Tryz.func71, Tryz.ntmps71
    go_wp2
    exact bodyPost_ret (v := EV 3 (0, 0, []) [] [] o (.slice a m c)) (by simp [results, Tryz.results71, go_sem]) rfl ⟨by rw [hB.out], (((Bl.refl w).alloc _).alloc _).alloc _⟩
  by_cases h5 : k = 5
  · subst h5
    have hB : Hid (bareV 5 (v1, v2, v3) t n o (.slice a m c) = EV 5 (0, 0, []) [] n 0 (.slice a m c)) := rfl
    go_enter Tryz.func71, Tryz.ntmps71
    go_wp2
    exact bodyPost_ret (v := EV 5 (0, 0, []) [] n 0 (.slice a m c)) (by simp [results, Tryz.results71, go_sem]) rfl ⟨by rw [hB.out], (((Bl.refl w).alloc _).alloc _).alloc _⟩
  by_cases h2 : k = 2
  · subst h2
    have hB : Hid (bareV 2 (v1, v2, v3) t n o (.slice a m c) = EV 2 (0, 0, []) t n 0 (.slice none 0 0)) := rfl
    have hx0 := three_0 w (.cells #[.int .i64 2, .int .i64 v1, .int .i64 v2, S v3, S t, S n, .int .i64 o, .slice a m c] 30) (.cells #[.int .i64 0, .int .i64 0, .int .i64 0, S [], S [], S [], .int .i64 0, .slice none 0 0] 30) (.cells #[.int .i64 2, .int .i64 0, .int .i64 0, S [], S [], S [], .int .i64 0, .slice a m c] 30)
    have hr0 := three_1 w (.cells #[.int .i64 2, .int .i64 v1, .int .i64 v2, S v3, S t, S n, .int .i64 o, .slice a m c] 30) (.cells #[.int .i64 0, .int .i64 0, .int .i64 0, S [], S [], S [], .int .i64 0, .slice none 0 0] 30) (.cells #[.int .i64 2, .int .i64 0, .int .i64 0, S [], S [], S [], .int .i64 0, .slice a m c] 30)
    have hu0 := heap_new' ((w.alloc (.cells #[.int .i64 2, .int .i64 v1, .int .i64 v2, S v3, S t, S n, .int .i64 o, .slice a m c] 30)).alloc (.cells #[.int .i64 0, .int .i64 0, .int .i64 0, S [], S [], S [], .int .i64 0, .slice none 0 0] 30)) (.cells #[.int .i64 2, .int .i64 0, .int .i64 0, S [], S [], S [], .int .i64 0, .slice a m c] 30) (k := w.heap.size + 1 + 1) (by simp)
    have HH := Lib.hid (And.intro hx0 (And.intro hr0 (And.intro hu0 ((((Bl.refl w).alloc (.cells #[.int .i64 2, .int .i64 v1, .int .i64 v2, S v3, S t, S n, .int .i64 o, .slice a m c] 30)).alloc (.cells #[.int .i64 0, .int .i64 0, .int .i64 0, S [], S [], S [], .int .i64 0, .slice none 0 0] 30)).alloc (.cells #[.int .i64 2, .int .i64 0, .int .i64 0, S [], S [], S [], .int .i64 0, .slice a m c] 30)))))
    clear hx0 hr0 hu0 h1 h3 h5
    go_enter Tryz.func71, Tryz.ntmps71
    go_wp2_with fail
    refine wp_region_noPanic (wp_region_sd (fun B => B.heap[w.heap.size]? = some (.cells #[.int .i64 2, .int .i64 v1, .int .i64 v2, S v3, S t, S n, .int .i64 o, .slice a m c] 30 (0, 0))) ((.take 0 (.take 1 (.take 2 (.take 3 (.take 4 (.one 5 (.take 6 (.one 7 (.take 8 (.one 9 .done))))))))))) (by kernel_rfl) (by kernel_rfl) (by kernel_rfl) (fun _ _ _ _ _ h => h) (HH.out.1) ?_) -- wp_region_sc 
    intro wd HWD hHeld
    refine sc_take' rfl (by rfl) (by intro w hSw; (try dsimp only at hSw); obtain ⟨⟨e0, e1, e2, e3, e4, e5, e6, e7⟩, -⟩ := eight hSw; go_simp; (try (first | with_reducible rfl | rfl))) ?_; (try simp only [Act.put, List.setIfInBounds_toArray, List.set_cons_zero, List.set_cons_succ])
    refine sc_take' rfl (by rfl) (by intro w hSw; (try dsimp only at hSw); obtain ⟨⟨e0, e1, e2, e3, e4, e5, e6, e7⟩, -⟩ := eight hSw; go_simp; (try (first | with_reducible rfl | rfl))) ?_; (try simp only [Act.put, List.setIfInBounds_toArray, List.set_cons_zero, List.set_cons_succ])
    refine sc_take' rfl (by rfl) (by intro w hSw; (try dsimp only at hSw); obtain ⟨⟨e0, e1, e2, e3, e4, e5, e6, e7⟩, -⟩ := eight hSw; go_simp; (try (first | with_reducible rfl | rfl))) ?_; (try simp only [Act.put, List.setIfInBounds_toArray, List.set_cons_zero, List.set_cons_succ])
    refine sc_take' rfl (by rfl) (by intro w hSw; (try dsimp only at hSw); obtain ⟨⟨e0, e1, e2, e3, e4, e5, e6, e7⟩, -⟩ := eight hSw; go_simp; (try (first | with_reducible rfl | rfl))) ?_; (try simp only [Act.put, List.setIfInBounds_toArray, List.set_cons_zero, List.set_cons_succ])
    refine sc_take' rfl (by rfl) (by intro w hSw; (try dsimp only at hSw); obtain ⟨⟨e0, e1, e2, e3, e4, e5, e6, e7⟩, -⟩ := eight hSw; go_simp; (try (first | with_reducible rfl | rfl))) ?_; (try simp only [Act.put, List.setIfInBounds_toArray, List.set_cons_zero, List.set_cons_succ])
    have HR1 := Lib.hid ((HWD.out.block _ (by simp)).trans HH.out.2.1)
    have HU1 := Lib.hid ((HWD.out.block _ (by simp)).trans HH.out.2.2.1)
    have HBW := Lib.hid (HH.out.2.2.2.call HWD.out)
    obtain ⟨⟨u0, u1, u2, u3, u4, u5, u6, u7⟩, g0, g1, g2, g3, g4, g5, g6, g7⟩ := eight HU1.out
    refine sc_call' rfl (fun K hK => ?_); go_simp; refine hK.out _ _ (((heap_set_other _ ⟨w.heap.size + 1 + 1, 4, none⟩ _ _ (by show w.heap.size ≠ w.heap.size + 1 + 1; omega)).trans hHeld)) (fun hHeld2 => ?_); clear hHeld hK K; have hHeld := hHeld2; clear hHeld2
    refine sc_take' rfl (by rfl) (by intro w hSw; (try dsimp only at hSw); obtain ⟨⟨e0, e1, e2, e3, e4, e5, e6, e7⟩, -⟩ := eight hSw; go_simp; (try (first | with_reducible rfl | rfl))) ?_; (try simp only [Act.put, List.setIfInBounds_toArray, List.set_cons_zero, List.set_cons_succ])
    clear u0 u1 u2 u3 u4 u5 u6 u7 g0 g1 g2 g3 g4 g5 g6 g7
    have HU2 : Hid ((wd.setCell ⟨w.heap.size + 1 + 1, 4, none⟩ (S t)).heap[w.heap.size + 1 + 1]? = some (.cells #[.int .i64 2, .int .i64 0, .int .i64 0, S [], S t, S [], .int .i64 0, .slice a m c] 30 (0, 0))) := set1_heap HU1.out 4 _
    obtain ⟨⟨u0, u1, u2, u3, u4, u5, u6, u7⟩, g0, g1, g2, g3, g4, g5, g6, g7⟩ := eight HU2.out
    refine sc_call' rfl (fun K hK => ?_); go_simp; refine hK.out _ _ (((heap_set_other _ ⟨w.heap.size + 1 + 1, 5, none⟩ _ _ (by show w.heap.size ≠ w.heap.size + 1 + 1; omega)).trans hHeld)) (fun hHeld2 => ?_); clear hHeld hK K; have hHeld := hHeld2; clear hHeld2
    refine sc_take' rfl (by rfl) (by intro w hSw; (try dsimp only at hSw); obtain ⟨⟨e0, e1, e2, e3, e4, e5, e6, e7⟩, -⟩ := eight hSw; go_simp; (try (first | with_reducible rfl | rfl))) ?_; (try simp only [Act.put, List.setIfInBounds_toArray, List.set_cons_zero, List.set_cons_succ])
    clear u0 u1 u2 u3 u4 u5 u6 u7 g0 g1 g2 g3 g4 g5 g6 g7
    have HU3 : Hid (((wd.setCell ⟨w.heap.size + 1 + 1, 4, none⟩ (S t)).setCell ⟨w.heap.size + 1 + 1, 5, none⟩ (S n)).heap[w.heap.size + 1 + 1]? = some (.cells #[.int .i64 2, .int .i64 0, .int .i64 0, S [], S t, S n, .int .i64 0, .slice a m c] 30 (0, 0))) := set1_heap HU2.out 5 _
    obtain ⟨⟨u0, u1, u2, u3, u4, u5, u6, u7⟩, g0, g1, g2, g3, g4, g5, g6, g7⟩ := eight HU3.out
    refine sc_call' rfl (fun K hK => ?_); go_simp; refine hK.out _ _ (((heap_set_other _ ⟨w.heap.size + 1 + 1, 7, none⟩ _ _ (by show w.heap.size ≠ w.heap.size + 1 + 1; omega)).trans hHeld)) (fun hHeld2 => ?_); clear hHeld hK K; have hHeld := hHeld2; clear hHeld2
    refine sc_nil (NoPanic.normal ?_)
    clear u0 u1 u2 u3 u4 u5 u6 u7 g0 g1 g2 g3 g4 g5 g6 g7
    have HU4 : Hid ((((wd.setCell ⟨w.heap.size + 1 + 1, 4, none⟩ (S t)).setCell ⟨w.heap.size + 1 + 1, 5, none⟩ (S n)).setCell ⟨w.heap.size + 1 + 1, 7, none⟩ (.slice none 0 0)).heap[w.heap.size + 1 + 1]? = some (.cells #[.int .i64 2, .int .i64 0, .int .i64 0, S [], S t, S n, .int .i64 0, .slice none 0 0] 30 (0, 0))) := set1_heap HU3.out 7 _
    have HR4 := Lib.hid ((heap_set_other _ ⟨w.heap.size + 1 + 1, 7, none⟩ (.slice none 0 0) (w.heap.size + 1) (by show w.heap.size + 1 ≠ w.heap.size + 1 + 1; omega)).trans ((heap_set_other _ ⟨w.heap.size + 1 + 1, 5, none⟩ (S n) (w.heap.size + 1) (by show w.heap.size + 1 ≠ w.heap.size + 1 + 1; omega)).trans ((heap_set_other _ ⟨w.heap.size + 1 + 1, 4, none⟩ (S t) (w.heap.size + 1) (by show w.heap.size + 1 ≠ w.heap.size + 1 + 1; omega)).trans HR1.out)))
    have HB4 := Lib.hid (((HBW.out.set (p := ⟨w.heap.size + 1 + 1, 4, none⟩) (by show w.heap.size ≤ w.heap.size + 1 + 1; omega) (S t)).set (p := ⟨w.heap.size + 1 + 1, 5, none⟩) (by show w.heap.size ≤ w.heap.size + 1 + 1; omega) (S n)).set (p := ⟨w.heap.size + 1 + 1, 7, none⟩) (by show w.heap.size ≤ w.heap.size + 1 + 1; omega) (.slice none 0 0))
    clear hHeld
    generalize ((wd.setCell ⟨w.heap.size + 1 + 1, 4, none⟩ (S t)).setCell ⟨w.heap.size + 1 + 1, 5, none⟩ (S n)).setCell ⟨w.heap.size + 1 + 1, 7, none⟩ (.slice none 0 0) = w9 at *
    obtain ⟨⟨u0, u1, u2, u3, u4, u5, u6, u7⟩, -⟩ := eight HU4.out
    obtain ⟨⟨r0, r1, r2, r3, r4, r5, r6, r7⟩, f0, f1, f2, f3, f4, f5, f6, f7⟩ := eight HR4.out
    go_wp2
    obtain ⟨⟨q0, q1, q2, q3, q4, q5, q6, q7⟩, -⟩ := eight (set8_heap HR4.out (.int .i64 2) (.int .i64 0) (.int .i64 0) (S []) (S t) (S n) (.int .i64 0) (.slice none 0 0))
    exact bodyPost_ret (v := EV 2 (0, 0, []) t n 0 (.slice none 0 0)) (by simp [results, Tryz.results71, go_sem, q0, q1, q2, q3, q4, q5, q6, q7]) rfl ⟨by rw [hB.out], bl_set8 HB4.out (by omega) _ _ _ _ _ _ _ _⟩
  have hB : Hid (bareV k (v1, v2, v3) t n o (.slice a m c) = EV k (0, 0, []) [] [] 0 (.slice a m c)) := by
    show _ = _
    unfold bareV
    rw [if_neg h1, if_neg h2, if_neg h3, if_neg h5]
  have b1 : (k == 1) = false := by simpa using h1
  have b2 : (k == 2) = false := by simpa using h2
  have b3 : (k == 3) = false := by simpa using h3
  have b5 : (k == 5) = false := by simpa using h5
  clear h1 h2 h3 h5
  go_enter Tryz.func71, Tryz.ntmps71
  go_wp2
  exact bodyPost_ret (v := EV k (0, 0, []) [] [] 0 (.slice a m c)) (by simp [results, Tryz.results71, go_sem]) rfl ⟨by rw [hB.out], (((Bl.refl w).alloc _).alloc _).alloc _⟩
--END1

end Go.Proofs.YtepkfkfedmbmnaaGreatDoor

namespace Go.Proofs.YtepkfkfedmbmnaaGreatDoor
open Go.RowKit
set_option maxRecDepth 100000

/-- The kind, the operator, the name of a call. -/
def callH (nm : List UInt8) : Int × Int × List UInt8 := if nm = sLength then (3, 19, []) else if nm = sAbs then (3, 20, []) else if nm = sCoalesce then (4, 0, []) else (5, 0, nm)
theorem callE_H (nm : List UInt8) (l : List Ex) : callE nm l = .mk (callH nm).1 (0, 0, []) [] (callH nm).2.2 (callH nm).2.1 l := by
  unfold callE callH
  by_cases h1 : nm = sLength
  · rw [if_pos h1, if_pos h1]; rfl
  rw [if_neg h1, if_neg h1]
  by_cases h2 : nm = sAbs
  · rw [if_pos h2, if_pos h2]; rfl
  rw [if_neg h2, if_neg h2]
  by_cases h3 : nm = sCoalesce
  · rw [if_pos h3, if_pos h3]
  rw [if_neg h3, if_neg h3]
theorem callH_four (nm : List UInt8) : ((callH nm).1 == 4) = decide (nm = sCoalesce) := by
  unfold callH
  by_cases h1 : nm = sLength
  · rw [if_pos h1]; subst h1; rfl
  rw [if_neg h1]
  by_cases h2 : nm = sAbs
  · rw [if_pos h2]; subst h2; rfl
  rw [if_neg h2]
  by_cases h3 : nm = sCoalesce
  · rw [if_pos h3, decide_eq_true h3]; rfl
  · rw [if_neg h3, decide_eq_false h3]; rfl
theorem FrP.set1 {W A : World} {bs b : Nat} (h : FrP W A bs) (hb : W.heap.size + 1 < b) (o : Nat) (v : Value) : FrP W (A.setCell ⟨b, o, none⟩ v) bs :=
  ⟨grown_newset h.grown o (by omega) v, (heap_set_other _ ⟨b, o, none⟩ _ _ (by show W.heap.size ≠ b; omega)).trans h.r, (heap_set_other _ ⟨b, o, none⟩ _ _ (by show W.heap.size + 1 ≠ b; omega)).trans h.x⟩
theorem Strm.set1 {W : World} {bs g cap k b : Nat} {ts : List Tok} (h : Strm W bs g cap ts k) (hb : bs ≠ b) (hg : g ≠ b) (o : Nat) (v : Value) : Strm (W.setCell ⟨b, o, none⟩ v) bs g cap ts k :=
  h.keep (heap_set_other _ ⟨b, o, none⟩ _ _ hb) (heap_set_other _ ⟨b, o, none⟩ _ _ hg)
theorem FrP.own {W A B : World} {bs : Nat} {r : Option Nat} (h : FrP W A bs) (hg : A.grownBy B r) (hr : ∀ j, r = some j → W.heap.size + 2 ≤ j) : FrP W B bs :=
  have hz := h.size
  ⟨⟨hg.1.trans h.grown.1, hg.2.trans h.grown.2, hg.3.trans h.grown.3, Nat.le_trans h.grown.4 hg.4, fun i hi hb => (hg.block i (by omega) (fun e => by have := hr i e.symm; omega)).trans (h.grown.block i hi hb)⟩,
    (hg.block _ (by omega) (fun e => by have := hr _ e.symm; omega)).trans h.r, (hg.block _ (by omega) (fun e => by have := hr _ e.symm; omega)).trans h.x⟩
theorem own_grownB {A B : World} {base bs : Nat} {e : TypeId} {size n : Nat} {v : Value} {xs : List Value} (h : A.ownsRow base e size v n xs) (hg : A.grownBy B (some bs)) (hb : bs < base) : B.ownsRow base e size v n xs := by
  refine ⟨h.1, ?_⟩
  rcases h.2 with h0 | ⟨g, cap, cur, hv, hgb, hh, r⟩
  · exact .inl h0
  · exact .inr ⟨g, cap, cur, hv, hgb, (hg.block g (Array.getElem?_eq_some_iff.1 hh).1 (fun e => by injection e with e; omega)).trans hh, r⟩
theorem own_set1 {A : World} {base : Nat} {e : TypeId} {size n : Nat} {v : Value} {xs : List Value} (h : A.ownsRow base e size v n xs) {b : Nat} (hb : b < base) (o : Nat) (y : Value) : (A.setCell ⟨b, o, none⟩ y).ownsRow base e size v n xs := by
  refine ⟨h.1, ?_⟩
  rcases h.2 with h0 | ⟨g, cap, cur, hv, hgb, hh, r⟩
  · exact .inl h0
  · exact .inr ⟨g, cap, cur, hv, hgb, (heap_set_other _ ⟨b, o, none⟩ _ _ (by show g ≠ b; omega)).trans hh, r⟩
theorem own_first {W : World} {base b : Nat} {x : Ex} {a : Option Addr} {n c : Nat} (h : W.heap[b]? = some (.cells #[.int .i64 x.k, .int .i64 x.v.1, .int .i64 x.v.2.1, S x.v.2.2, S x.t, S x.n, .int .i64 x.o, .slice a n c] 30 (0, 0))) (hb : base ≤ b) : W.ownsRow base 30 8 (.slice (some ⟨b, 0, none⟩) 1 1) 1 (rowE [(x, .slice a n c)]) :=
  ⟨rfl, .inr ⟨b, 1, _, rfl, hb, h, Nat.le_refl _, by unfold maxLen; omega, rfl, rfl⟩⟩
theorem erows_any (w : World) : Calls Tryz.prog 76 #[] w fun e w' => e = .returned (.slice (some ⟨w.heap.size, 0, none⟩) 4 4) ∧ w' = w.alloc (.cells #[S sCount, S sSum, S sMin, S sMax] 9) := by
  go_enter Tryz.func76, Tryz.ntmps76
  go_wp2
  go_ret
  exact ⟨rfl, rfl⟩
def sumA : List ByteArray := sumNames.map fun x => ⟨x.toArray⟩
theorem contains_sum (x : List UInt8) : Lib.containsS (sumA.take 4) ⟨x.toArray⟩ = sumNames.contains x := by
  have e : sumA.take 4 = sumA := List.take_of_length_le (Nat.le_of_eq rfl)
  rw [Bool.eq_iff_iff, e, Lib.containsS_iff]
  unfold sumA
  simp
theorem contains_rows {W : World} {b : Nat} {t : TypeId} (h : W.heap[b]? = some (.cells #[S sCount, S sSum, S sMin, S sMax] t (0, 0))) (x : List UInt8) : Calls Tryz.prog 75 #[.slice (some ⟨b, 0, none⟩) 4 4, S x] W fun e w' => e = .returned (.bool (sumNames.contains x)) ∧ w' = W := by
  have := Tryz.slices_Contains_string b 0 4 4 sumA ⟨x.toArray⟩ W (Nat.le_of_eq rfl) (by omega) (fun j hj => by
    rw [Lib.cell_of_heap h, Nat.zero_add]
    match j, hj with
    | 0, _ => rfl
    | 1, _ => rfl
    | 2, _ => rfl
    | 3, _ => rfl
    | j + 4, hj => exact absurd hj (by show ¬ j + 4 < 4; omega))
  rw [contains_sum] at this
  exact this
/-- What a call comes to behind an argument. -/
def behindR (ts : List Tok) (run : Job → Res) (nm : List UInt8) (d k : Nat) (l : List Ex) : Res := match (if nm = sCoalesce then takeK ts k [[44]] else none) with
  | some k2 => run (.args nm k2 d l)
  | none => match takeK ts k [[41]] with
    | some k2 => .good k2 (callE nm l)
    | none => .bad 261
theorem args_step (ts : List Tok) (run : Job → Res) (nm : List UInt8) (k d : Nat) (acc : List Ex) : stepR ts run (.args nm k d acc) = (deeperR d (run (.rd 0 k (d + 1)))).bind fun k1 x => behindR ts run nm d k1 (acc ++ [x]) := rfl
def CalSt (ts : List Tok) (R : Res) (nm : List UInt8) (d f kk : Nat) (l : List Ex) : Prop := ∃ f', f' ≤ f ∧ R = behindR ts (runR ts f') nm d kk l
theorem deeper_past {ts : List Tok} (hT : TokOK ts) {f n k d : Nat} (hk : k < ts.length) {k' : Nat} {x : Ex} (h : deeperR d (runR ts f (.rd n k (d + 1))) = .good k' x) : k < k' := by
  unfold deeperR at h
  split at h
  · exact parts_past hT hk h
  · cases h
theorem own_addr {W : World} {base n : Nat} {e : TypeId} {size : Nat} {ag : Option Addr} {ac : Nat} {xs : List Value} (h : W.ownsRow base e size (.slice ag n ac) n xs) (hn : 1 ≤ n) : ∃ g, ag = some ⟨g, 0, none⟩ ∧ base ≤ g := by
  rcases h.2 with ⟨h0, _⟩ | ⟨g, cap, cur, h0, hg, _⟩
  · injection h0 with h1 h2 h3
    omega
  · injection h0 with h1 h2 h3
    exact ⟨g, h1, hg⟩
theorem own_reads {W : World} {base : Nat} {l : List (Ex × Value)} {ag : Option Addr} {ac : Nat} {p : Nat → Prop} (h : W.ownsRow base 30 8 (.slice ag l.length ac) l.length (rowE l)) (hn : 1 ≤ l.length) (hp : ∀ b, base ≤ b → p b) (hr : ∀ q ∈ l, ReadsP p W q.2 q.1.args) : ReadsP p W (.slice ag (l.map (·.1)).length ac) (l.map (·.1)) := by
  obtain ⟨g, rfl, hg⟩ := own_addr h hn
  rw [List.length_map]
  exact p_own h (hp g hg) hr
--BEGIN1
set_option maxHeartbeats 8000000 in
theorem ecalled_any {f : Nat} (IH : ∀ f', f' ≤ f → RdP f' 0) : CalledP f := by
  intro W bs g cap ts nm k d h hT hd hne
  obtain ⟨R, HR0⟩ : ∃ R, Hid (R = calledR ts (runR ts f) nm k d) := ⟨_, rfl⟩
  rw [← HR0.out] at hne ⊢
  have HNE := Lib.hid hne
  have HI := Lib.hid IH
  have H := Lib.hid h
  have HT := Lib.hid hT
  have hbl := h.lt'
  have hgl := h.gl
  obtain ⟨kx, ox, nx, hH⟩ : ∃ kx ox nx, callH nm = (kx, ox, nx) := ⟨_, _, _, rfl⟩
  have HH := Lib.hid hH
  have HF0 := Lib.hid ((FrP.start W bs).bl ((Bl.refl _).alloc (.cells #[.int .i64 3, .int .i64 0, .int .i64 0, S [], S [], S [], .int .i64 0, .slice none 0 0] 30)))
  have HB0 := Lib.hid ((((Bl.refl W).alloc (.cells #[.pointer (some ⟨bs, 0, none⟩)] 80)).alloc (.cells #[.int .i64 0, .int .i64 0, .int .i64 0, S [], S [], S [], .int .i64 0, .slice none 0 0] 30)).alloc (.cells #[.int .i64 3, .int .i64 0, .int .i64 0, S [], S [], S [], .int .i64 0, .slice none 0 0] 30))
  have hX0 := heap_new' ((W.alloc (.cells #[.pointer (some ⟨bs, 0, none⟩)] 80)).alloc (.cells #[.int .i64 0, .int .i64 0, .int .i64 0, S [], S [], S [], .int .i64 0, .slice none 0 0] 30)) (.cells #[.int .i64 3, .int .i64 0, .int .i64 0, S [], S [], S [], .int .i64 0, .slice none 0 0] 30) (k := W.heap.size + 1 + 1) (by simp)
  have HX0 := Lib.hid hX0
  clear h IH hT hne hH hX0
  by_cases hkn : knownF nm = false
  · have HRF := Lib.hid (show R = .bad 261 from by rw [HR0.out]; unfold calledR; rw [if_pos hkn])
    unfold knownF at hkn
    simp only [Bool.or_eq_false_iff, sLength, sAbs, sCoalesce] at hkn
    obtain ⟨⟨⟨h1, h2⟩, h3⟩, h4⟩ := hkn
    go_enter Tryz.func166, Tryz.ntmps166
    go_wp2_with fail
    (with_reducible refine (erows_any _).mono ?_)
    rintro e w1 ⟨rfl, rfl⟩
    go_wp2_with fail
    refine (contains_rows (heap_new' _ _ (by simp)) nm).mono ?_
    rintro e w1 ⟨rfl, rfl⟩
    rw [h4]
    go_wp2_with fail
    (with_reducible refine (emust_no _ _).mono ?_)
    rintro e w1 ⟨rfl, rfl⟩
    go_wp2
    exact ⟨rfl, XPost.no (HF0.out.bl ((Bl.refl _).alloc _)).grown ((H.out.bl HB0.out).bl ((Bl.refl _).alloc _)) (.inr rfl) HRF.out⟩
  replace hkn : knownF nm = true := by simpa using hkn
  have HKN := Lib.hid hkn
  have HRc := Lib.hid (show R = if nm = sCount then match takeK ts k [[42], [41]] with
      | some k' => .good k' (callE nm [])
      | none => runR ts f (.args nm k d [])
    else runR ts f (.args nm k d []) from by rw [HR0.out]; unfold calledR; rw [if_neg (by rw [hkn]; simp)]; rfl)
  clear hkn
  go_enter Tryz.func166, Tryz.ntmps166
  go_upto_block 0 with fail
  go_cut [] from 9 to 27 (fun wc => FrP W wc bs ∧ Strm wc bs g cap ts k ∧ wc.heap[W.heap.size + 1 + 1]? = some (.cells #[.int .i64 kx, .int .i64 0, .int .i64 0, S [], S [], S nx, .int .i64 ox, .slice none 0 0] 30 (0, 0)))
  case first =>
    by_cases h1 : nm = sLength
    · have hH := HH.out
      rw [show callH nm = (3, 19, []) by rw [h1]; rfl] at hH
      obtain ⟨rfl, rfl, rfl⟩ : kx = 3 ∧ ox = 19 ∧ nx = [] := by injection hH with a b; injection b with b c; exact ⟨a.symm, b.symm, c.symm⟩
      unfold sLength at h1
      subst h1
      clear hH
      go_wp2_with fail
      go_meet
      case rel => exact ⟨(FrP.start W bs).bl ((Bl.refl _).alloc _), H.out.bl ((((Bl.refl W).alloc _).alloc _).alloc _), heap_new' _ _ (by simp)⟩
    by_cases h2 : nm = sAbs
    · have hH := HH.out
      rw [show callH nm = (3, 20, []) by rw [h2]; rfl] at hH
      obtain ⟨rfl, rfl, rfl⟩ : kx = 3 ∧ ox = 20 ∧ nx = [] := by injection hH with a b; injection b with b c; exact ⟨a.symm, b.symm, c.symm⟩
      unfold sAbs at h2
      subst h2
      clear hH h1
      go_wp2_with fail
      go_meet
      case rel => exact ⟨(FrP.start W bs).bl ((Bl.refl _).alloc _), H.out.bl ((((Bl.refl W).alloc _).alloc _).alloc _), heap_new' _ _ (by simp)⟩
    by_cases h3 : nm = sCoalesce
    · have hH := HH.out
      rw [show callH nm = (4, 0, []) by rw [h3]; rfl] at hH
      obtain ⟨rfl, rfl, rfl⟩ : kx = 4 ∧ ox = 0 ∧ nx = [] := by injection hH with a b; injection b with b c; exact ⟨a.symm, b.symm, c.symm⟩
      unfold sCoalesce at h3
      subst h3
      clear hH h1 h2
      go_wp2_with fail
      go_meet
      case rel => exact ⟨(FrP.start W bs).bl ((Bl.refl _).alloc _), H.out.bl ((((Bl.refl W).alloc _).alloc _).alloc _), heap_new' _ _ (by simp)⟩
    have hH := HH.out
    rw [show callH nm = (5, 0, nm) by unfold callH; rw [if_neg h1, if_neg h2, if_neg h3]] at hH
    obtain ⟨rfl, rfl, rfl⟩ : kx = 5 ∧ ox = 0 ∧ nx = nm := by injection hH with a b; injection b with b c; exact ⟨a.symm, b.symm, c.symm⟩
    have b1 : (nx == [108, 101, 110, 103, 116, 104]) = false := by simpa [sLength] using h1
    have b2 : (nx == [97, 98, 115]) = false := by simpa [sAbs] using h2
    have b3 : (nx == [99, 111, 97, 108, 101, 115, 99, 101]) = false := by simpa [sCoalesce] using h3
    have h4 : sumNames.contains nx = true := by
      have := HKN.out
      unfold knownF at this
      rw [show (nx == sLength) = false by simpa using h1, show (nx == sAbs) = false by simpa using h2, show (nx == sCoalesce) = false by simpa using h3] at this
      simpa using this
    clear hH h1 h2 h3
    go_wp2_with fail
    (with_reducible refine (erows_any _).mono ?_)
    rintro e w1 ⟨rfl, rfl⟩
    go_wp2_with fail
    refine (contains_rows (heap_new' _ _ (by simp)) nx).mono ?_
    rintro e w1 ⟨rfl, rfl⟩
    rw [h4]
    go_wp2_with fail
    (with_reducible refine (emust_yes _ _).mono ?_)
    rintro e w1 ⟨rfl, rfl⟩
    go_wp2_with fail
    go_meet
    case rel => exact ⟨((FrP.start W bs).bl ((Bl.refl _).alloc _)).bl ((Bl.refl _).alloc _), H.out.bl (((((Bl.refl W).alloc _).alloc _).alloc _).alloc _), (heap_old _ _ (by simp)).trans (heap_new' _ _ (by simp))⟩
  case rest =>
    obtain ⟨hFc, hSc, hXc⟩ := hcut
    have HFc := Lib.hid hFc
    have HSc := Lib.hid hSc
    have HXc := Lib.hid hXc
    have HB4 : Hid ((kx == 4) = decide (nm = sCoalesce)) := by
      have := callH_four nm
      rw [HH.out] at this
      exact this
    have HCE : Hid (∀ l, callE nm l = .mk kx (0, 0, []) [] nx ox l) := fun l => by rw [callE_H, HH.out]
    have hzc := (Array.getElem?_eq_some_iff.1 HXc.out).1
    have pz : W.heap.size < wc.heap.size := by omega
    have p0 := cells1 HFc.out.r
    clear hFc hSc hXc HF0 HB0 HX0 HH HKN
    go_upto_region 10 with fail
    go_cut [38] from 28 to 38 (fun t wq => ∃ (bq : Bool) (kq : Nat), t = .bool bq ∧ FrP W wq bs ∧ Strm wq bs g cap ts kq ∧ wq.heap[W.heap.size + 1 + 1]? = some (.cells #[.int .i64 kx, .int .i64 0, .int .i64 0, S [], S [], S nx, .int .i64 ox, .slice none 0 0] 30 (0, 0)) ∧ ((bq = true ∧ R = .good kq (callE nm [])) ∨ (bq = false ∧ kq = k ∧ R = runR ts f (.args nm k d []))))
    case first =>
      by_cases hc : nm = sCount
      · have hRc := HRc.out
        rw [if_pos hc] at hRc
        have hc' : nm = [99, 111, 117, 110, 116] := hc
        clear hc
        subst hc'
        cases ht : takeK ts k [[42], [41]] with
        | some k' =>
          rw [ht] at hRc
          have HRG := Lib.hid hRc
          have HTK := Lib.hid ht
          clear hRc ht
          go_wp2_with fail
          (with_reducible refine (erows_any _).mono ?_)
          rintro e w1 ⟨rfl, rfl⟩
          go_wp2_with fail
          refine (etake_yes (HSc.out.bl ((Bl.refl wc).alloc _)) [[42], [41]] HTK.out _ 2 _ _ rfl rfl (by simp) (by simp)).mono ?_
          rintro e w2 ⟨rfl, hg2, hs2⟩
          have hgw := grown_trans (grown_bl ((Bl.refl wc).alloc _) (some bs)) hg2
          have HF2 := Lib.hid (HFc.out.next hbl hgw)
          have HX2 := Lib.hid ((hgw.block _ hzc (fun e => by injection e with e; omega)).trans HXc.out)
          go_wp2_with fail
          go_meet
          case rel => exact ⟨true, k', rfl, HF2.out, hs2, HX2.out, .inl ⟨rfl, HRG.out⟩⟩
        | none =>
          rw [ht] at hRc
          have HRG := Lib.hid hRc
          have HTK := Lib.hid ht
          clear hRc ht
          go_wp2_with fail
          (with_reducible refine (erows_any _).mono ?_)
          rintro e w1 ⟨rfl, rfl⟩
          go_wp2_with fail
          refine (etake_no (HSc.out.bl ((Bl.refl wc).alloc _)) [[42], [41]] HTK.out _ 2 _ _ rfl rfl (by simp) (by simp)).mono ?_
          rintro e w2 ⟨rfl, hg2, hs2⟩
          have hgw := grown_trans (grown_bl ((Bl.refl wc).alloc _) (some bs)) hg2
          have HF2 := Lib.hid (HFc.out.next hbl hgw)
          have HX2 := Lib.hid ((hgw.block _ hzc (fun e => by injection e with e; omega)).trans HXc.out)
          go_wp2_with fail
          go_meet
          case rel => exact ⟨false, k, rfl, HF2.out, hs2, HX2.out, .inr ⟨rfl, rfl, HRG.out⟩⟩
      · have hRc := HRc.out
        rw [if_neg hc] at hRc
        have HRG := Lib.hid hRc
        have hcb : (nm == [99, 111, 117, 110, 116]) = false := by simpa [sCount] using hc
        have hcb2 : (nm == sCount) = false := by simpa using hc
        clear hRc hc
        go_wp2_with fail
        (with_reducible refine (erows_any _).mono ?_)
        rintro e w1 ⟨rfl, rfl⟩
        go_wp2_with fail
        go_meet
        case rel => exact ⟨false, k, rfl, HFc.out.bl ((Bl.refl wc).alloc _), HSc.out.bl ((Bl.refl wc).alloc _), (heap_old _ _ hzc).trans HXc.out, .inr ⟨rfl, rfl, HRG.out⟩⟩
    case rest =>
      obtain ⟨bq, kq, rfl, hF, hS, hX, hq⟩ := hcut
      have HF := Lib.hid hF
      have HS := Lib.hid hS
      have HX := Lib.hid hX
      clear hF hS hX HRc HR0 p0 pz hzc HFc HSc HXc
      have p0 := cells1 HF.out.r
      rcases hq with ⟨rfl, hq⟩ | ⟨rfl, rfl, hq⟩
      · have HRG := Lib.hid (hq.trans (by rw [HCE.out]))
        clear hq
        obtain ⟨⟨e0, e1, e2, e3, e4, e5, e6, e7⟩, -⟩ := eight HX.out
        obtain ⟨⟨i0, i1, i2, i3, i4, i5, i6, i7⟩, f0, f1, f3, f4, f5, f6, f7, f8⟩ := eight HF.out.x
        go_wp2
        -- the answer's place is loaded and answered
        obtain ⟨⟨q0, q1, q2, q3, q4, q5, q6, q7⟩, -⟩ := eight (set8_heap (HF.out).x (.int .i64 kx) (.int .i64 0) (.int .i64 0) (S []) (S []) (S nx) (.int .i64 ox) (.slice none 0 0))
        refine bodyPost_ret (v := .agg #[.int .i64 kx, .int .i64 0, .int .i64 0, S [], S [], S nx, .int .i64 ox, .slice none 0 0]) (by simp [results, Tryz.results166, go_sem, q0, q1, q2, q3, q4, q5, q6, q7]) rfl ?_
        exact HF.out.fin (ya := []) hbl hgl HS.out (ReadsP.nil _ _ _ _) HRG.out
      · obtain ⟨f1, rfl⟩ : ∃ f1, f = f1 + 1 := by
          cases f with
          | zero => exact absurd hq HNE.out
          | succ m => exact ⟨m, rfl⟩
        replace hq : R = stepR ts (runR ts f1) (.args nm kq d []) := hq
        rw [args_step] at hq
        have HRG := Lib.hid hq
        have HN2 := Lib.hid (bind_out (show _ from by have := HNE.out; rw [hq] at this; exact this))
        have hzq := HF.out.size
        clear hq
        go_wp2_with fail
        refine (edeeper_any (HI.out f1 (by omega)) HS.out HT.out hd _ rfl HN2.out).mono ?_
        intro e w3 hp
        obtain ⟨hg3, k3, hs3, hcase⟩ := hp.open
        clear hp p0
        have HF3 := Lib.hid (HF.out.next hbl hg3)
        have HS3 := Lib.hid hs3
        have hzx := (Array.getElem?_eq_some_iff.1 HX.out).1
        rcases hcase with ⟨yk, y1, y2, y3, yt, yn, yo, ya, ysv, ycv, hr3, hA, rfl⟩ | ⟨c, hc, hr3, rfl⟩
        rotate_left
        · have HR3 := Lib.hid (show R = .bad c from by rw [HRG.out, hr3]; rfl)
          clear hg3 hs3 hr3
          go_wp2
          exact ⟨rfl, XPost.no HF3.out.grown HS3.out hc HR3.out⟩
        have HC3 := Lib.hid (show CalSt ts R nm d (f1 + 1) k3 [.mk yk (y1, y2, y3) yt yn yo ya] from ⟨f1, by omega, by rw [HRG.out, hr3]; rfl⟩)
        have hk3 := deeper_past HT.out HS.out.lt hr3
        have HX3 := Lib.hid ((hg3.block _ hzx (fun e => by injection e with e; omega)).trans HX.out)
        have hz3 := hg3.4
        have HA3 := Lib.hid (show ReadsP (fun b => W.heap.size + 3 ≤ b ∧ b ≠ w3.heap.size) w3 (.slice ysv ya.length ycv) ya from hA.of fun b hl (hb : _ ≤ b) => ⟨by omega, by omega⟩)
        clear hg3 hs3 hr3 hA HN2 HRG HS HX
        obtain ⟨⟨e0, e1, e2, e3, e4, e5, e6, e7⟩, f0, f2, f3, f4, f5, f6, f7, f8⟩ := eight HX3.out
        have pz3 : W.heap.size + 1 + 1 < w3.heap.size := by omega
        go_wp2_with fail
        clear e0 e1 e2 e3 e4 e5 e6 e7 f0 f2 f3 f4 f5 f6 f7 f8
        go_loopw [48] (fun t wr => ∃ (v0 : Value) (kk : Nat) (acc : List (Ex × Value)) (ag : Option Addr) (ac : Nat), t = v0 ∧ acc.length ≤ kk ∧ 1 ≤ acc.length ∧ Hid (FrP W wr bs) ∧ Hid (Strm wr bs g cap ts kk) ∧
            Hid (wr.heap[W.heap.size + 1 + 1]? = some (.cells #[.int .i64 kx, .int .i64 0, .int .i64 0, S [], S [], S nx, .int .i64 ox, .slice ag acc.length ac] 30 (0, 0))) ∧
            Hid (wr.ownsRow (W.heap.size + 3) 30 8 (.slice ag acc.length ac) acc.length (rowE acc)) ∧ Hid (∀ q ∈ acc, ReadsP (fun b => W.heap.size + 3 ≤ b ∧ some b ≠ Value.ownBlock (.slice ag acc.length ac)) wr q.2 q.1.args) ∧ Hid (CalSt ts R nm d (f1 + 1) kk (acc.map (·.1)))) (fun _ wr => ts.length - natAt wr bs)
        case atStart =>
          refine ⟨_, k3, [(.mk yk (y1, y2, y3) yt yn yo ya, .slice ysv ya.length ycv)], some ⟨w3.heap.size, 0, none⟩, 1, rfl, by simp; omega, by simp, (HF3.out.set1 (by omega) _ _).bl ((Bl.refl _).alloc _), (HS3.out.set1 (by omega) (by omega) _ _).bl ((Bl.refl _).alloc _), (heap_old _ _ (by rw [World.size_setCell]; exact pz3)).trans (set1_heap HX3.out _ _), own_first (heap_new' _ _ (by rw [World.size_setCell])) (by omega), fun q hq => ?_, HC3.out⟩
          obtain rfl := List.mem_singleton.1 hq
          exact (((HA3.out.of fun b _ hb => ⟨hb.1, fun e => hb.2 (by injection e)⟩).keep (fun _ h => h) fun i hi _ => heap_set_other _ ⟨W.heap.size + 1 + 1, 7, none⟩ _ _ (by show i ≠ W.heap.size + 1 + 1; have := hi.1; omega))).bl ((Bl.refl _).alloc _)
        case round =>
          clear HA3 HX3 HS3 HF3 HC3
          obtain ⟨v0, kk, acc, ag, ac, rfl, hak, hac, HF, HS, HX, HOW, HTR, HC⟩ := hrel
          have hzx := (Array.getElem?_eq_some_iff.1 HX.out).1
          have hkk := HS.out.lt
          have hfew := HS.out.few
          obtain ⟨⟨e0, e1, e2, e3, e4, e5, e6, e7⟩, -⟩ := eight HX.out
          obtain ⟨f', hf', hRf⟩ := HC.out
          unfold behindR at hRf
          by_cases hco : nm = sCoalesce
          · have hk4 : kx = 4 := by
              have h := HB4.out
              rw [decide_eq_true hco] at h
              simpa using h
            subst hk4
            rw [if_pos hco] at hRf
            have p0 := cells1 HF.out.r
            cases ht : takeK ts kk [[44]] with
            | none =>
              rw [ht] at hRf
              simp only at hRf
              have HRf := Lib.hid hRf
              have HTK := Lib.hid ht
              clear hRf ht hco HC
              go_wp2_with fail
              refine (etake_no HS.out [[44]] HTK.out _ 1 _ _ rfl rfl (by simp) (by simp)).mono ?_
              rintro e w4 ⟨rfl, hg4, hs4⟩
              have HF4 := Lib.hid (HF.out.next hbl hg4)
              have HS4 := Lib.hid hs4
              have HX4 := Lib.hid ((hg4.block _ hzx (fun e => by injection e with e; omega)).trans HX.out)
              have HOW4 := Lib.hid (own_grownB HOW.out hg4 (by omega))
              have HTR4 := Lib.hid (show ∀ q ∈ acc, ReadsP (fun b => W.heap.size + 3 ≤ b ∧ some b ≠ Value.ownBlock (.slice ag acc.length ac)) w4 q.2 q.1.args from fun q hq => (HTR.out q hq).grown hg4 (fun h => by omega))
              clear hg4 hs4 p0 e0 e1 e2 e3 e4 e5 e6 e7
              -- the call's end
              have p9 := cells1 (HF4).out.r
              have hzx9 := (Array.getElem?_eq_some_iff.1 (HX4).out).1
              cases ht9 : takeK ts kk [[41]] with
              | some k9 =>
                have hR9 := HRf.out
                rw [ht9] at hR9
                have HR9 := Lib.hid (hR9.trans (by rw [HCE.out]))
                have HT9 := Lib.hid ht9
                clear hR9 ht9
                go_wp2_with fail
                refine (etake_yes (HS4).out [[41]] HT9.out _ 1 _ _ rfl rfl (by simp) (by simp)).mono ?_
                rintro e w9 ⟨rfl, hg9, hs9⟩
                have HF9 := Lib.hid ((HF4).out.next hbl hg9)
                have HS9 := Lib.hid hs9
                have HX9 := Lib.hid ((hg9.block _ hzx9 (fun e => by injection e with e; omega)).trans (HX4).out)
                have HA9 := Lib.hid (own_reads (p := fun b => W.heap.size + 2 ≤ b) (own_grownB (HOW4).out hg9 (by omega)) hac (fun b hb => by omega) (fun q hq => ((HTR4).out q hq).grown hg9 (fun h => by omega) |>.of fun b _ hb => by omega))
                clear hg9 hs9 p9
                go_wp2_with fail
                (with_reducible refine (emust_yes _ _).mono ?_)
                rintro e w1 ⟨rfl, rfl⟩
                obtain ⟨⟨e0, e1, e2, e3, e4, e5, e6, e7⟩, -⟩ := eight HX9.out
                obtain ⟨⟨i0, i1, i2, i3, i4, i5, i6, i7⟩, f0, f2, f3, f4, f5, f6, f7, f8⟩ := eight HF9.out.x
                go_wp2
                -- the answer's place is loaded and answered
                obtain ⟨⟨q0, q1, q2, q3, q4, q5, q6, q7⟩, -⟩ := eight (set8_heap (HF9.out).x (.int .i64 4) (.int .i64 0) (.int .i64 0) (S []) (S []) (S nx) (.int .i64 ox) (.slice ag acc.length ac))
                refine bodyPost_ret (v := .agg #[.int .i64 4, .int .i64 0, .int .i64 0, S [], S [], S nx, .int .i64 ox, .slice ag acc.length ac]) (by simp [results, Tryz.results166, go_sem, q0, q1, q2, q3, q4, q5, q6, q7]) rfl ?_
                have hfin := HF9.out.fin hbl hgl HS9.out HA9.out HR9.out
                rw [List.length_map] at hfin
                exact hfin
              | none =>
                have hR9 := HRf.out
                rw [ht9] at hR9
                have HR9 := Lib.hid hR9
                have HT9 := Lib.hid ht9
                clear hR9 ht9
                go_wp2_with fail
                refine (etake_no (HS4).out [[41]] HT9.out _ 1 _ _ rfl rfl (by simp) (by simp)).mono ?_
                rintro e w9 ⟨rfl, hg9, hs9⟩
                have HF9 := Lib.hid ((HF4).out.next hbl hg9)
                have HS9 := Lib.hid hs9
                clear hg9 hs9 p9
                go_wp2_with fail
                (with_reducible refine (emust_no _ _).mono ?_)
                rintro e w1 ⟨rfl, rfl⟩
                go_wp2
                exact ⟨rfl, XPost.no HF9.out.grown HS9.out (.inr rfl) HR9.out⟩
            | some k2 =>
              rw [ht] at hRf
              simp only at hRf
              obtain ⟨f2, rfl⟩ : ∃ f2, f' = f2 + 1 := by
                cases f' with
                | zero => exact absurd hRf HNE.out
                | succ m => exact ⟨m, rfl⟩
              replace hRf : R = stepR ts (runR ts f2) (.args nm k2 d (acc.map (·.1))) := hRf
              rw [args_step] at hRf
              have hk2 := takeK_le HT.out hkk ht
              have HRF := Lib.hid hRf
              have HN4 := Lib.hid (bind_out (show _ from by have := HNE.out; rw [hRf] at this; exact this))
              have HTK := Lib.hid ht
              clear hRf ht hco HC
              go_wp2_with fail
              refine (etake_yes HS.out [[44]] HTK.out _ 1 _ _ rfl rfl (by simp) (by simp)).mono ?_
              rintro e w4 ⟨rfl, hg4, hs4⟩
              have HF4 := Lib.hid (HF.out.next hbl hg4)
              have HS4 := Lib.hid hs4
              have HX4 := Lib.hid ((hg4.block _ hzx (fun e => by injection e with e; omega)).trans HX.out)
              have HOW4 := Lib.hid (own_grownB HOW.out hg4 (by omega))
              have HTR4 := Lib.hid (show ∀ q ∈ acc, ReadsP (fun b => W.heap.size + 3 ≤ b ∧ some b ≠ Value.ownBlock (.slice ag acc.length ac)) w4 q.2 q.1.args from fun q hq => (HTR.out q hq).grown hg4 (fun h => by omega))
              have hlow := Lib.hid HOW4.out.lt
              have hzx4 := (Array.getElem?_eq_some_iff.1 HX4.out).1
              clear hg4 hs4 p0 e0 e1 e2 e3 e4 e5 e6 e7
              go_wp2_with fail
              refine (wp_region_sd (fun B => B.heap[W.heap.size]? = some (.cells #[.pointer (some ⟨bs, 0, none⟩)] 80 (0, 0))) ((.take 0 (.take 2 (.take 3 (.two 1 4 (.one 4 (.one 5 (.one 6 (.take 7 (.one 8 .done))))) (.two 1 5 (.one 5 (.one 6 (.take 7 (.one 8 .done)))) (.one 1 (.one 6 (.take 7 (.one 8 .done)))))))))) (by kernel_rfl) (by kernel_rfl) (by kernel_rfl) (fun c a d v w h => by cases d <;> exact h) ((HF4.out.bl ((Bl.refl _).drew)).r) ?_) -- wp_region_sc 
              intro wd HWD hHeld
              refine sc_take' rfl (by rfl) (by intro w hSw; (try dsimp only at hSw); have a0 := cells1 hSw; go_simp; (try (first | with_reducible rfl | rfl))) ?_; (try simp only [Act.put, List.setIfInBounds_toArray, List.set_cons_zero, List.set_cons_succ])
              refine sc_take' rfl (by rfl) (by intro w hSw; (try dsimp only at hSw); have a0 := cells1 hSw; go_simp; (try (first | with_reducible rfl | rfl))) ?_; (try simp only [Act.put, List.setIfInBounds_toArray, List.set_cons_zero, List.set_cons_succ])
              refine sc_take' rfl (by rfl) (by intro w hSw; (try dsimp only at hSw); have a0 := cells1 hSw; go_simp; (try (first | with_reducible rfl | rfl))) ?_; (try simp only [Act.put, List.setIfInBounds_toArray, List.set_cons_zero, List.set_cons_succ])
              refine sc_two ?_ ?_
              focus
                obtain ⟨⟨e0, e1, e2, e3, e4, e5, e6, e7⟩, -⟩ := eight (Eq.trans (HWD.out.block _ hzx4) HX4.out)
                refine sc_call' rfl (fun K hK => ?_); go_simp; refine hK.out _ _ (hHeld) (fun hHeld2 => ?_); clear hHeld hK K; have hHeld := hHeld2; clear hHeld2
                clear e0 e1 e2 e3 e4 e5 e6 e7
                refine sc_call' rfl (fun K hK => ?_); go_simp; (refine (edeeper_any (HI.out f2 (by omega)) (HS4.out.bl HWD.out) HT.out hd _ rfl HN4.out).mono ?_; intro e w5 hp; obtain ⟨hg5, k5, hs5, hcase⟩ := hp.open; clear hp; have HF5 := Lib.hid ((HF4.out.bl HWD.out).next hbl hg5); rcases hcase with ⟨zk, z1, z2, z3, zt, zn, zo, za, zsv, zcv, hr5, hZ, rfl⟩ | ⟨c, hc, hr5, rfl⟩; rotate_left; (· go_wp2; exact ⟨rfl, XPost.no HF5.out.grown hs5 hc (by rw [HRF.out, hr5]; rfl)⟩); have hzd := HWD.out.size; have HX5 := Lib.hid ((hg5.block _ (by omega) (fun e => by injection e with e; omega)).trans ((HWD.out.block _ (by omega)).trans HX4.out)); have HS5 := Lib.hid hs5; have pz5 : W.heap.size + 1 + 1 < w5.heap.size := (by have := hg5.4; omega); have hk5 := deeper_past HT.out hk2.2 hr5; have HR5 := Lib.hid hr5; have HOW5 := Lib.hid (own_grownB (ownsRow_bl HWD.out HOW4.out) hg5 (by omega)); have hz5 := hg5.4; have HTR5 := Lib.hid (show ∀ q ∈ acc, ReadsP (fun b => W.heap.size + 3 ≤ b ∧ some b ≠ Value.ownBlock (.slice ag acc.length ac)) w5 q.2 q.1.args from fun q hq => ((HTR4.out q hq).bl HWD.out).grown hg5 (fun h => by omega)); have HZ := Lib.hid (show ReadsP (fun b => W.heap.size + 3 ≤ b ∧ some b ≠ Value.ownBlock (.slice ag acc.length ac)) w5 (.slice zsv za.length zcv) za from hZ.of fun b hl (hb : _ ≤ b) => ⟨by omega, fun e => by have := (hlow.out b e.symm).2; omega⟩); clear hg5 hs5 hr5 hZ; obtain ⟨⟨g0, g1, g2, g3, g4, g5, g6, g7⟩, -⟩ := eight HX5.out); go_wp2_with fail; refine hK.out _ _ (HF5.out.r) (fun hHeld2 => ?_); clear hHeld hK K; have hHeld := hHeld2; clear hHeld2
                refine sc_call' rfl (fun K hK => ?_); go_simp; refine hK.out _ _ (((HF5.out.bl ((Bl.refl _).alloc _)).r)) (fun hHeld2 => ?_); clear hHeld hK K; have hHeld := hHeld2; clear hHeld2
                refine sc_call' rfl (fun K hK => ?_); rw [if_pos (by rfl)]; refine append_ex (.tmp 55) (.tmp 59) rfl (W.heap.size + 3) (.slice ag acc.length ac) acc rfl (ownsRow_bl ((Bl.refl _).alloc _) HOW5.out) w5.heap.size (.mk zk (z1, z2, z3) zt zn zo za) zsv za.length zcv rfl (heap_new w5 _) (by omega) (by rw [World.size_alloc]; omega) ?_; intro v' w6 hown6 hg6 hat; have HF6 := Lib.hid ((HF5.out.bl ((Bl.refl _).alloc _)).own hg6 (fun j e => by have := (hlow.out j e).1; omega)); refine hK.out _ _ HF6.out.r (fun hHeld2 => ?_); clear hHeld hK K; have hHeld := hHeld2; clear hHeld2
                have HX6 := Lib.hid ((hg6.block _ (by rw [World.size_alloc]; omega) (fun e => by have := (hlow.out _ e.symm).1; omega)).trans ((heap_old _ _ (by omega)).trans HX5.out))
                have HS6 := Lib.hid ((HS5.out.bl ((Bl.refl _).alloc _)).keep (hg6.block _ (by rw [World.size_alloc]; omega) (fun e => by have := (hlow.out _ e.symm).1; omega)) (hg6.block _ (by rw [World.size_alloc]; omega) (fun e => by have := (hlow.out _ e.symm).1; omega)))
                have HTR6 := Lib.hid (show ∀ q ∈ acc ++ [((Ex.mk zk (z1, z2, z3) zt zn zo za), .slice zsv za.length zcv)], ReadsP (fun b => W.heap.size + 3 ≤ b ∧ some b ≠ v'.ownBlock) w6 q.2 q.1.args from fun q hq => by rcases List.mem_append.1 hq with hq | hq; exact ((HTR5.out q hq).bl ((Bl.refl _).alloc _)).own hg6 hat; obtain rfl := List.mem_singleton.1 hq; exact (HZ.out.bl ((Bl.refl _).alloc _)).own hg6 hat)
                obtain ⟨gn, cn, rfl⟩ := own_slice hown6
                have HOW6 := Lib.hid hown6
                have hz6 := HF6.out.size
                have hzx6 := (Array.getElem?_eq_some_iff.1 HX6.out).1
                clear hown6 hg6 hat g0 g1 g2 g3 g4 g5 g6 g7
                refine sc_take' rfl (by rfl) (by intro w hSw; (try dsimp only at hSw); have a0 := cells1 hSw; go_simp; (try (first | with_reducible rfl | rfl))) ?_; (try simp only [Act.put, List.setIfInBounds_toArray, List.set_cons_zero, List.set_cons_succ])
                obtain ⟨⟨e0, e1, e2, e3, e4, e5, e6, e7⟩, c0, c1, c2, c3, c4, c5, c6, c7⟩ := eight HX6.out
                refine sc_call' rfl (fun K hK => ?_); go_simp; refine hK.out _ _ (((HF6.out.set1 (by omega) 7 _).r)) (fun hHeld2 => ?_); clear hHeld hK K; have hHeld := hHeld2; clear hHeld2
                clear e0 e1 e2 e3 e4 e5 e6 e7 c0 c1 c2 c3 c4 c5 c6 c7
                refine sc_nil ?_
                go_wp2
                go_roundw
                case rel => exact ⟨_, k5, acc ++ [((Ex.mk zk (z1, z2, z3) zt zn zo za), .slice zsv za.length zcv)], some ⟨gn, 0, none⟩, cn, rfl, by simp; omega, by simp, HF6.out.set1 (by omega) _ _, HS6.out.set1 (by omega) (by omega) _ _, by rw [List.length_append]; exact set1_heap HX6.out _ _, by rw [List.length_append]; exact own_set1 HOW6.out (by omega) _ _, by rw [List.length_append]; exact fun q hq => (HTR6.out q hq).keep (fun _ h => h) fun i hi _ => heap_set_other _ ⟨W.heap.size + 1 + 1, 7, none⟩ _ _ (by show i ≠ W.heap.size + 1 + 1; have := hi.1; omega), ⟨f2, by omega, by rw [HRF.out, HR5.out, List.map_append]; rfl⟩⟩
                case measure => have n1 := natAt_strm HS.out; have n2 := natAt_strm (HS6.out.set1 (b := W.heap.size + 1 + 1) (by omega) (by omega) 7 (.slice (some ⟨gn, 0, none⟩) (acc.length + 1) cn)); show ts.length - natAt (w6.setCell ⟨W.heap.size + 1 + 1, 7, none⟩ (.slice (some ⟨gn, 0, none⟩) (acc.length + 1) cn)) bs < ts.length - natAt wr bs; rw [n1, n2]; have := hk2.1; omega
              rotate_left 1
              focus
                refine sc_call' rfl (fun K hK => ?_); go_simp; (refine (edeeper_any (HI.out f2 (by omega)) (HS4.out.bl HWD.out) HT.out hd _ rfl HN4.out).mono ?_; intro e w5 hp; obtain ⟨hg5, k5, hs5, hcase⟩ := hp.open; clear hp; have HF5 := Lib.hid ((HF4.out.bl HWD.out).next hbl hg5); rcases hcase with ⟨zk, z1, z2, z3, zt, zn, zo, za, zsv, zcv, hr5, hZ, rfl⟩ | ⟨c, hc, hr5, rfl⟩; rotate_left; (· go_wp2; exact ⟨rfl, XPost.no HF5.out.grown hs5 hc (by rw [HRF.out, hr5]; rfl)⟩); have hzd := HWD.out.size; have HX5 := Lib.hid ((hg5.block _ (by omega) (fun e => by injection e with e; omega)).trans ((HWD.out.block _ (by omega)).trans HX4.out)); have HS5 := Lib.hid hs5; have pz5 : W.heap.size + 1 + 1 < w5.heap.size := (by have := hg5.4; omega); have hk5 := deeper_past HT.out hk2.2 hr5; have HR5 := Lib.hid hr5; have HOW5 := Lib.hid (own_grownB (ownsRow_bl HWD.out HOW4.out) hg5 (by omega)); have hz5 := hg5.4; have HTR5 := Lib.hid (show ∀ q ∈ acc, ReadsP (fun b => W.heap.size + 3 ≤ b ∧ some b ≠ Value.ownBlock (.slice ag acc.length ac)) w5 q.2 q.1.args from fun q hq => ((HTR4.out q hq).bl HWD.out).grown hg5 (fun h => by omega)); have HZ := Lib.hid (show ReadsP (fun b => W.heap.size + 3 ≤ b ∧ some b ≠ Value.ownBlock (.slice ag acc.length ac)) w5 (.slice zsv za.length zcv) za from hZ.of fun b hl (hb : _ ≤ b) => ⟨by omega, fun e => by have := (hlow.out b e.symm).2; omega⟩); clear hg5 hs5 hr5 hZ; obtain ⟨⟨g0, g1, g2, g3, g4, g5, g6, g7⟩, -⟩ := eight HX5.out); go_wp2_with fail; refine hK.out _ _ (HF5.out.r) (fun hHeld2 => ?_); clear hHeld hK K; have hHeld := hHeld2; clear hHeld2
                refine sc_two ?_ ?_
                focus
                  obtain ⟨⟨e0, e1, e2, e3, e4, e5, e6, e7⟩, -⟩ := eight (Eq.trans (HWD.out.block _ hzx4) HX4.out)
                  refine sc_call' rfl (fun K hK => ?_); go_simp; refine hK.out _ _ (hHeld) (fun hHeld2 => ?_); clear hHeld hK K; have hHeld := hHeld2; clear hHeld2
                  clear e0 e1 e2 e3 e4 e5 e6 e7
                  refine sc_call' rfl (fun K hK => ?_); go_simp; refine hK.out _ _ (((HF5.out.bl ((Bl.refl _).alloc _)).r)) (fun hHeld2 => ?_); clear hHeld hK K; have hHeld := hHeld2; clear hHeld2
                  refine sc_call' rfl (fun K hK => ?_); rw [if_pos (by rfl)]; refine append_ex (.tmp 55) (.tmp 59) rfl (W.heap.size + 3) (.slice ag acc.length ac) acc rfl (ownsRow_bl ((Bl.refl _).alloc _) HOW5.out) w5.heap.size (.mk zk (z1, z2, z3) zt zn zo za) zsv za.length zcv rfl (heap_new w5 _) (by omega) (by rw [World.size_alloc]; omega) ?_; intro v' w6 hown6 hg6 hat; have HF6 := Lib.hid ((HF5.out.bl ((Bl.refl _).alloc _)).own hg6 (fun j e => by have := (hlow.out j e).1; omega)); refine hK.out _ _ HF6.out.r (fun hHeld2 => ?_); clear hHeld hK K; have hHeld := hHeld2; clear hHeld2
                  have HX6 := Lib.hid ((hg6.block _ (by rw [World.size_alloc]; omega) (fun e => by have := (hlow.out _ e.symm).1; omega)).trans ((heap_old _ _ (by omega)).trans HX5.out))
                  have HS6 := Lib.hid ((HS5.out.bl ((Bl.refl _).alloc _)).keep (hg6.block _ (by rw [World.size_alloc]; omega) (fun e => by have := (hlow.out _ e.symm).1; omega)) (hg6.block _ (by rw [World.size_alloc]; omega) (fun e => by have := (hlow.out _ e.symm).1; omega)))
                  have HTR6 := Lib.hid (show ∀ q ∈ acc ++ [((Ex.mk zk (z1, z2, z3) zt zn zo za), .slice zsv za.length zcv)], ReadsP (fun b => W.heap.size + 3 ≤ b ∧ some b ≠ v'.ownBlock) w6 q.2 q.1.args from fun q hq => by rcases List.mem_append.1 hq with hq | hq; exact ((HTR5.out q hq).bl ((Bl.refl _).alloc _)).own hg6 hat; obtain rfl := List.mem_singleton.1 hq; exact (HZ.out.bl ((Bl.refl _).alloc _)).own hg6 hat)
                  obtain ⟨gn, cn, rfl⟩ := own_slice hown6
                  have HOW6 := Lib.hid hown6
                  have hz6 := HF6.out.size
                  have hzx6 := (Array.getElem?_eq_some_iff.1 HX6.out).1
                  clear hown6 hg6 hat g0 g1 g2 g3 g4 g5 g6 g7
                  refine sc_take' rfl (by rfl) (by intro w hSw; (try dsimp only at hSw); have a0 := cells1 hSw; go_simp; (try (first | with_reducible rfl | rfl))) ?_; (try simp only [Act.put, List.setIfInBounds_toArray, List.set_cons_zero, List.set_cons_succ])
                  obtain ⟨⟨e0, e1, e2, e3, e4, e5, e6, e7⟩, c0, c1, c2, c3, c4, c5, c6, c7⟩ := eight HX6.out
                  refine sc_call' rfl (fun K hK => ?_); go_simp; refine hK.out _ _ (((HF6.out.set1 (by omega) 7 _).r)) (fun hHeld2 => ?_); clear hHeld hK K; have hHeld := hHeld2; clear hHeld2
                  clear e0 e1 e2 e3 e4 e5 e6 e7 c0 c1 c2 c3 c4 c5 c6 c7
                  refine sc_nil ?_
                  go_wp2
                  go_roundw
                  case rel => exact ⟨_, k5, acc ++ [((Ex.mk zk (z1, z2, z3) zt zn zo za), .slice zsv za.length zcv)], some ⟨gn, 0, none⟩, cn, rfl, by simp; omega, by simp, HF6.out.set1 (by omega) _ _, HS6.out.set1 (by omega) (by omega) _ _, by rw [List.length_append]; exact set1_heap HX6.out _ _, by rw [List.length_append]; exact own_set1 HOW6.out (by omega) _ _, by rw [List.length_append]; exact fun q hq => (HTR6.out q hq).keep (fun _ h => h) fun i hi _ => heap_set_other _ ⟨W.heap.size + 1 + 1, 7, none⟩ _ _ (by show i ≠ W.heap.size + 1 + 1; have := hi.1; omega), ⟨f2, by omega, by rw [HRF.out, HR5.out, List.map_append]; rfl⟩⟩
                  case measure => have n1 := natAt_strm HS.out; have n2 := natAt_strm (HS6.out.set1 (b := W.heap.size + 1 + 1) (by omega) (by omega) 7 (.slice (some ⟨gn, 0, none⟩) (acc.length + 1) cn)); show ts.length - natAt (w6.setCell ⟨W.heap.size + 1 + 1, 7, none⟩ (.slice (some ⟨gn, 0, none⟩) (acc.length + 1) cn)) bs < ts.length - natAt wr bs; rw [n1, n2]; have := hk2.1; omega
                rotate_left 1
                focus
                  refine sc_call' rfl (fun K hK => ?_); go_simp; refine hK.out _ _ (((HF5.out.bl ((Bl.refl _).alloc _)).r)) (fun hHeld2 => ?_); clear hHeld hK K; have hHeld := hHeld2; clear hHeld2
                  obtain ⟨⟨e0, e1, e2, e3, e4, e5, e6, e7⟩, -⟩ := eight (Eq.trans (HWD.out.block _ hzx4) HX4.out)
                  refine sc_call' rfl (fun K hK => ?_); go_simp; refine hK.out _ _ (hHeld) (fun hHeld2 => ?_); clear hHeld hK K; have hHeld := hHeld2; clear hHeld2
                  clear e0 e1 e2 e3 e4 e5 e6 e7
                  refine sc_call' rfl (fun K hK => ?_); rw [if_pos (by rfl)]; refine append_ex (.tmp 55) (.tmp 59) rfl (W.heap.size + 3) (.slice ag acc.length ac) acc rfl (ownsRow_bl ((Bl.refl _).alloc _) HOW5.out) w5.heap.size (.mk zk (z1, z2, z3) zt zn zo za) zsv za.length zcv rfl (heap_new w5 _) (by omega) (by rw [World.size_alloc]; omega) ?_; intro v' w6 hown6 hg6 hat; have HF6 := Lib.hid ((HF5.out.bl ((Bl.refl _).alloc _)).own hg6 (fun j e => by have := (hlow.out j e).1; omega)); refine hK.out _ _ HF6.out.r (fun hHeld2 => ?_); clear hHeld hK K; have hHeld := hHeld2; clear hHeld2
                  have HX6 := Lib.hid ((hg6.block _ (by rw [World.size_alloc]; omega) (fun e => by have := (hlow.out _ e.symm).1; omega)).trans ((heap_old _ _ (by omega)).trans HX5.out))
                  have HS6 := Lib.hid ((HS5.out.bl ((Bl.refl _).alloc _)).keep (hg6.block _ (by rw [World.size_alloc]; omega) (fun e => by have := (hlow.out _ e.symm).1; omega)) (hg6.block _ (by rw [World.size_alloc]; omega) (fun e => by have := (hlow.out _ e.symm).1; omega)))
                  have HTR6 := Lib.hid (show ∀ q ∈ acc ++ [((Ex.mk zk (z1, z2, z3) zt zn zo za), .slice zsv za.length zcv)], ReadsP (fun b => W.heap.size + 3 ≤ b ∧ some b ≠ v'.ownBlock) w6 q.2 q.1.args from fun q hq => by rcases List.mem_append.1 hq with hq | hq; exact ((HTR5.out q hq).bl ((Bl.refl _).alloc _)).own hg6 hat; obtain rfl := List.mem_singleton.1 hq; exact (HZ.out.bl ((Bl.refl _).alloc _)).own hg6 hat)
                  obtain ⟨gn, cn, rfl⟩ := own_slice hown6
                  have HOW6 := Lib.hid hown6
                  have hz6 := HF6.out.size
                  have hzx6 := (Array.getElem?_eq_some_iff.1 HX6.out).1
                  clear hown6 hg6 hat g0 g1 g2 g3 g4 g5 g6 g7
                  refine sc_take' rfl (by rfl) (by intro w hSw; (try dsimp only at hSw); have a0 := cells1 hSw; go_simp; (try (first | with_reducible rfl | rfl))) ?_; (try simp only [Act.put, List.setIfInBounds_toArray, List.set_cons_zero, List.set_cons_succ])
                  obtain ⟨⟨e0, e1, e2, e3, e4, e5, e6, e7⟩, c0, c1, c2, c3, c4, c5, c6, c7⟩ := eight HX6.out
                  refine sc_call' rfl (fun K hK => ?_); go_simp; refine hK.out _ _ (((HF6.out.set1 (by omega) 7 _).r)) (fun hHeld2 => ?_); clear hHeld hK K; have hHeld := hHeld2; clear hHeld2
                  clear e0 e1 e2 e3 e4 e5 e6 e7 c0 c1 c2 c3 c4 c5 c6 c7
                  refine sc_nil ?_
                  go_wp2
                  go_roundw
                  case rel => exact ⟨_, k5, acc ++ [((Ex.mk zk (z1, z2, z3) zt zn zo za), .slice zsv za.length zcv)], some ⟨gn, 0, none⟩, cn, rfl, by simp; omega, by simp, HF6.out.set1 (by omega) _ _, HS6.out.set1 (by omega) (by omega) _ _, by rw [List.length_append]; exact set1_heap HX6.out _ _, by rw [List.length_append]; exact own_set1 HOW6.out (by omega) _ _, by rw [List.length_append]; exact fun q hq => (HTR6.out q hq).keep (fun _ h => h) fun i hi _ => heap_set_other _ ⟨W.heap.size + 1 + 1, 7, none⟩ _ _ (by show i ≠ W.heap.size + 1 + 1; have := hi.1; omega), ⟨f2, by omega, by rw [HRF.out, HR5.out, List.map_append]; rfl⟩⟩
                  case measure => have n1 := natAt_strm HS.out; have n2 := natAt_strm (HS6.out.set1 (b := W.heap.size + 1 + 1) (by omega) (by omega) 7 (.slice (some ⟨gn, 0, none⟩) (acc.length + 1) cn)); show ts.length - natAt (w6.setCell ⟨W.heap.size + 1 + 1, 7, none⟩ (.slice (some ⟨gn, 0, none⟩) (acc.length + 1) cn)) bs < ts.length - natAt wr bs; rw [n1, n2]; have := hk2.1; omega
          · have hb4 : (kx == 4) = false := by rw [HB4.out]; exact decide_eq_false hco
            rw [if_neg hco] at hRf
            simp only at hRf
            have HRf := Lib.hid hRf
            clear hRf hco HC
            -- the call's end
            have p9 := cells1 (HF).out.r
            have hzx9 := (Array.getElem?_eq_some_iff.1 (HX).out).1
            cases ht9 : takeK ts kk [[41]] with
            | some k9 =>
              have hR9 := HRf.out
              rw [ht9] at hR9
              have HR9 := Lib.hid (hR9.trans (by rw [HCE.out]))
              have HT9 := Lib.hid ht9
              clear hR9 ht9
              go_wp2_with fail
              refine (etake_yes (HS).out [[41]] HT9.out _ 1 _ _ rfl rfl (by simp) (by simp)).mono ?_
              rintro e w9 ⟨rfl, hg9, hs9⟩
              have HF9 := Lib.hid ((HF).out.next hbl hg9)
              have HS9 := Lib.hid hs9
              have HX9 := Lib.hid ((hg9.block _ hzx9 (fun e => by injection e with e; omega)).trans (HX).out)
              have HA9 := Lib.hid (own_reads (p := fun b => W.heap.size + 2 ≤ b) (own_grownB (HOW).out hg9 (by omega)) hac (fun b hb => by omega) (fun q hq => ((HTR).out q hq).grown hg9 (fun h => by omega) |>.of fun b _ hb => by omega))
              clear hg9 hs9 p9
              go_wp2_with fail
              (with_reducible refine (emust_yes _ _).mono ?_)
              rintro e w1 ⟨rfl, rfl⟩
              obtain ⟨⟨e0, e1, e2, e3, e4, e5, e6, e7⟩, -⟩ := eight HX9.out
              obtain ⟨⟨i0, i1, i2, i3, i4, i5, i6, i7⟩, f0, f2, f3, f4, f5, f6, f7, f8⟩ := eight HF9.out.x
              go_wp2
              -- the answer's place is loaded and answered
              obtain ⟨⟨q0, q1, q2, q3, q4, q5, q6, q7⟩, -⟩ := eight (set8_heap (HF9.out).x (.int .i64 kx) (.int .i64 0) (.int .i64 0) (S []) (S []) (S nx) (.int .i64 ox) (.slice ag acc.length ac))
              refine bodyPost_ret (v := .agg #[.int .i64 kx, .int .i64 0, .int .i64 0, S [], S [], S nx, .int .i64 ox, .slice ag acc.length ac]) (by simp [results, Tryz.results166, go_sem, q0, q1, q2, q3, q4, q5, q6, q7]) rfl ?_
              have hfin := HF9.out.fin hbl hgl HS9.out HA9.out HR9.out
              rw [List.length_map] at hfin
              exact hfin
            | none =>
              have hR9 := HRf.out
              rw [ht9] at hR9
              have HR9 := Lib.hid hR9
              have HT9 := Lib.hid ht9
              clear hR9 ht9
              go_wp2_with fail
              refine (etake_no (HS).out [[41]] HT9.out _ 1 _ _ rfl rfl (by simp) (by simp)).mono ?_
              rintro e w9 ⟨rfl, hg9, hs9⟩
              have HF9 := Lib.hid ((HF).out.next hbl hg9)
              have HS9 := Lib.hid hs9
              clear hg9 hs9 p9
              go_wp2_with fail
              (with_reducible refine (emust_no _ _).mono ?_)
              rintro e w1 ⟨rfl, rfl⟩
              go_wp2
              exact ⟨rfl, XPost.no HF9.out.grown HS9.out (.inr rfl) HR9.out⟩
--END1

end Go.Proofs.YtepkfkfedmbmnaaGreatDoor

namespace Go.Proofs.YtepkfkfedmbmnaaGreatDoor
open Go.RowKit
set_option maxRecDepth 100000

theorem allP_step {f : Nat} (IH : ∀ f', f' ≤ f → AllP f') : AllP (f + 1) := by
  intro n hn W bs g cap ts k d d' hd' h hT hd hne
  subst hd'
  have hs : runR ts (f + 1) (.rd n k d) = stepR ts (runR ts f) (.rd n k d) := rfl
  rw [hs] at hne ⊢
  have h8 : n = 0 ∨ n = 1 ∨ n = 2 ∨ n = 3 ∨ n = 4 ∨ n = 5 ∨ n = 6 ∨ n = 7 := by omega
  rcases h8 with rfl | rfl | rfl | rfl | rfl | rfl | rfl | rfl
  · rw [step_n _ _ _ _ (by decide) (by decide) (by decide)] at hne ⊢
    exact eor_any IH h hT hd hne
  · rw [step_n _ _ _ _ (by decide) (by decide) (by decide)] at hne ⊢
    exact eand_any IH h hT hd hne
  · rw [step_2] at hne ⊢
    cases ht : takeK ts k [sNot] with
    | some k' =>
      rw [ht] at hne
      exact enot_yes (IH f (Nat.le_refl _) 2 (by decide)) h hT hd ht hne
    | none =>
      rw [ht] at hne
      exact enot_no (IH f (Nat.le_refl _) 3 (by decide)) h hT hd ht hne
  · rw [step_3] at hne ⊢
    exact ecompared_any (IH f (Nat.le_refl _) 4 (by decide)) h hT hd hne
  · rw [step_n _ _ _ _ (by decide) (by decide) (by decide)] at hne ⊢
    exact ecat_any IH h hT hd hne
  · rw [step_n _ _ _ _ (by decide) (by decide) (by decide)] at hne ⊢
    exact esum_any IH h hT hd hne
  · rw [step_n _ _ _ _ (by decide) (by decide) (by decide)] at hne ⊢
    exact eproduct_any IH h hT hd hne
  · rw [step_7] at hne ⊢
    cases ht : takeK ts k [[45]] with
    | some k' =>
      rw [ht] at hne
      exact esign_yes (IH f (Nat.le_refl _) 7 (by decide)) h hT hd ht hne
    | none =>
      rw [ht] at hne
      refine esign_no (fun W bs g cap ts k d h hT hd hne => ealone_any (IH f (Nat.le_refl _) 0 (by decide)) (ecalled_any fun f' hf => IH f' hf 0 (by decide)) h hT hd hne) h hT hd ht hne
theorem allP : ∀ (m f : Nat), f ≤ m → AllP f
  | _, 0, _ => fun n _ W bs g cap ts k d d' _ _ _ _ hne => absurd rfl hne
  | 0, f + 1, h => by omega
  | m + 1, f + 1, h => allP_step fun f' hf => allP m f' (by omega)

/-- What an activation leaves hangs on its results alone. -/
theorem leaves_res {P : Program} {fn : Func} {t t' : Array Value} {R : Ending → World → Prop} (h : ∀ w, (results fn t).run P w = (results fn t').run P w) : ∀ ds : List Deferred, Leaves P fn t R ds = Leaves P fn t' R ds
  | [] => by
    funext u w
    cases u with
    | returning => simp only [Leaves, h]
    | panicking c => rfl
    | run => rfl
  | d :: ds => by
    funext u w
    simp only [Leaves, leaves_res h ds]
section
variable {P : Program} {ops : Array Oper} {Q : Exit → Act → World → Prop} {S : World → Prop}
theorem sc_anyL {lo : Nat} (hs : Region.noSelect ops = true) (hlo : ∀ (i : Nat) (o : Oper), ops[i]? = some o → ∀ t, o.dst = some t → lo ≤ t) (hQ : ∀ (c : _) (a : Act) (d : Nat) (v : Value) (w : World), lo ≤ d → Q (.panic c) (a.put (some d) v) w → Q (.panic c) a w) :
    ∀ (s : Sc) (n : Nat) (listed : Array Bool) (a : Act) (w : World), scB ops n s listed = true → S w → wpSc P ops Q S s a w → wpAnyH P .any ops Q S n listed a w
  | .done, n, listed, a, w, hB, _, h => by
    simp only [scB, Bool.and_eq_true, beq_iff_eq] at hB
    obtain ⟨rfl, hB⟩ := hB
    exact wpAnyH_done (by simpa using hB) h _
  | .take i s, 0, _, _, _, hB, _, _ => by simp [scB] at hB
  | .take i s, n + 1, listed, a, w, hB, hS, h => by
    simp only [scB, Bool.and_eq_true] at hB
    obtain ⟨o, v, ho, hy, h⟩ := h
    refine wpAnyH_take ho hs hB.1.1 hB.1.2 (fun c a w hq => ?_) hy hS (sc_anyL hs hlo hQ s _ _ _ _ hB.2 hS h)
    cases hd : o.dst with
    | none => rw [hd] at hq; exact hq
    | some t => rw [hd] at hq; exact hQ c a t _ w (hlo i o ho t hd) hq
  | .one i s, 0, _, _, _, hB, _, _ => by simp [scB] at hB
  | .one i s, n + 1, listed, a, w, hB, hS, h => by
    simp only [scB, Bool.and_eq_true, beq_iff_eq] at hB
    refine wpAnyH_all hB.1 (by simp) ?_
    intro j hj
    obtain rfl : j = i := by simpa using hj
    exact wpOp_mono (fun a' w' hk => ⟨hk.1, sc_anyL hs hlo hQ s _ _ _ _ hB.2 hk.1 hk.2⟩) h
  | .two i k s t, 0, _, _, _, hB, _, _ => by simp [scB] at hB
  | .two i k s t, n + 1, listed, a, w, hB, hS, h => by
    simp only [scB, Bool.and_eq_true, beq_iff_eq] at hB
    refine wpAnyH_all hB.1.1 (by simp) ?_
    intro j hj
    have hj' : j = i ∨ j = k := by simpa using hj
    rcases hj' with rfl | rfl
    · exact wpOp_mono (fun a' w' hk => ⟨hk.1, sc_anyL hs hlo hQ s _ _ _ _ hB.1.2 hk.1 hk.2⟩) h.1
    · exact wpOp_mono (fun a' w' hk => ⟨hk.1, sc_anyL hs hlo hQ t _ _ _ _ hB.2 hk.1 hk.2⟩) h.2
theorem lo_of {lo : Nat} (h : (ops.toList.all fun o => match o.dst with | some t => decide (lo ≤ t) | none => true) = true) : ∀ (i : Nat) (o : Oper), ops[i]? = some o → ∀ t, o.dst = some t → lo ≤ t := by
  intro i o ho t hd
  have hm : o ∈ ops.toList := by
    rw [← Array.getElem?_toList] at ho
    exact List.mem_of_getElem? ho
  have := List.all_eq_true.1 h o hm
  rw [hd] at this
  simpa using this
theorem wp_region_sL {id : Nat} {a : Act} {w : World} (lo : Nat) (S : World → Prop) (s : Sc) (hm : P.follows .mixedOrders = true) (hs : Region.noSelect ops = true) (hB : scB ops ops.size s (Array.replicate ops.size false) = true)
    (hlo : (ops.toList.all fun o => match o.dst with | some t => decide (lo ≤ t) | none => true) = true)
    (hQ : ∀ (c : _) (a : Act) (d : Nat) (v : Value) (w : World), lo ≤ d → Q (.panic c) (a.put (some d) v) w → Q (.panic c) a w) (hS : S w.drew) (h : ∀ wd, Hid (Bl w wd) → S wd → wpSc P ops Q S s a wd) : (Code.region id ops true).wp P Q a w :=
  wp_region_held hm (sc_anyL hs (lo_of hlo) hQ _ _ _ a _ hB hS (h _ ((Bl.refl w).drew) hS))
end

abbrev zV : Value := EV 0 (0, 0, []) [] [] 0 (.slice none 0 0)
abbrev zC : Array Value := #[.int .i64 0, .int .i64 0, .int .i64 0, S [], S [], S [], .int .i64 0, .slice none 0 0]
abbrev setZ (A : World) (b : Nat) : World := set8 A b (.int .i64 0) (.int .i64 0) (.int .i64 0) (S []) (S []) (S []) (.int .i64 0) (.slice none 0 0)
--BEGIN1
set_option maxHeartbeats 2000000 in
theorem eRead1_any {A : World} {bs g cap k k0 X Sb Wb : Nat} {ts : List Tok} {x0 x1 x2 x3 x4 x5 x6 x7 : Value} (hs : Strm A bs g cap ts k) (hk : k0 < ts.length) (hX : A.heap[X]? = some (.cells #[x0, x1, x2, x3, x4, x5, x6, x7] 30 (0, 0))) (hS : A.heap[Sb]? = some (.cells #[.pointer (some ⟨bs, 0, none⟩)] 39 (0, 0))) (hW : A.heap[Wb]? = some (.cells #[.int .i64 (k0 : Int)] 3 (0, 0)))
    (h1 : X ≠ Sb) (h2 : X ≠ Wb) (h3 : bs ≠ X) (h4 : g ≠ X) :
    Calls Tryz.prog 35 #[.pointer (some ⟨X, 0, none⟩), .pointer (some ⟨Sb, 0, none⟩), .pointer (some ⟨Wb, 0, none⟩)] A fun e w' => e = .returned (.tuple #[]) ∧ ((setZ A X).grownBy w' (some bs) ∧ Strm w' bs g cap ts k0) := by
  obtain ⟨⟨e0, e1, e2, e3, e4, e5, e6, e7⟩, f0, f1, f2, f3, f4, f5, f6, f7⟩ := eight hX
  have c1 := cells1 hS
  have c2 := cells1 hW
  have d1 := cells1 ((set8_other A (Ne.symm h1) (.int .i64 0) (.int .i64 0) (.int .i64 0) (S []) (S []) (S []) (.int .i64 0) (.slice none 0 0)).trans hS)
  have d2 := cells1 ((set8_other A (Ne.symm h2) (.int .i64 0) (.int .i64 0) (.int .i64 0) (S []) (S []) (S []) (.int .i64 0) (.slice none 0 0)).trans hW)
  have HS := Lib.hid (hs.set8 h3 h4 (.int .i64 0) (.int .i64 0) (.int .i64 0) (S []) (S []) (S []) (.int .i64 0) (.slice none 0 0))
  have HK := Lib.hid hk
  clear hs hX hS hW hk
  go_enter Tryz.func35, Tryz.ntmps35
  go_wp2_with fail
  refine (tBack_any HS.out (k0 : Int)).mono ?_
  rintro e w' ⟨hg, (⟨-, -, rfl, hs⟩ | ⟨hn, -, -⟩)⟩
  · rw [Int.toNat_natCast] at hs
    go_wp2
    go_end0
    exact ⟨rfl, hg, hs⟩
  · exact absurd ⟨by omega, by have := HK.out; omega⟩ hn
--END1

end Go.Proofs.YtepkfkfedmbmnaaGreatDoor

namespace Go.Proofs.YtepkfkfedmbmnaaGreatDoor
open Go.RowKit
set_option maxRecDepth 100000

/-- What Read answers. -/
def ERPost (bs g cap : Nat) (ts : List Tok) (k : Nat) (W : World) (e : Ending) (w' : World) : Prop :=
  W.grownBy w' (some bs) ∧ ((∃ k' x v, readR ts k = .good k' x ∧ Strm w' bs g cap ts k' ∧ ReadsX W.heap.size w' x v ∧ e = .returned (.tuple #[v, .int .i64 0])) ∨
    (∃ c, (c = 260 ∨ c = 261) ∧ readR ts k = .bad c ∧ Strm w' bs g cap ts k ∧ e = .returned (.tuple #[zV, .int .i64 c])))
/-- Read's frame. -/
structure FrE (W A : World) (bs k : Nat) : Prop where
  grown : W.grownBy A (some bs)
  s : A.heap[W.heap.size]? = some (.cells #[.pointer (some ⟨bs, 0, none⟩)] 39 (0, 0))
  x : A.heap[W.heap.size + 1]? = some (.cells zC 30 (0, 0))
  e : A.heap[W.heap.size + 2]? = some (.cells #[.int .i64 0] 31 (0, 0))
  q : A.heap[W.heap.size + 3]? = some (.cells #[.int .i64 (k : Int)] 3 (0, 0))
theorem FrE.size {W A : World} {bs k : Nat} (h : FrE W A bs k) : W.heap.size + 3 < A.heap.size := (Array.getElem?_eq_some_iff.1 h.q).1
theorem FrE.next {W A B : World} {bs k : Nat} (h : FrE W A bs k) (hb : bs < W.heap.size) (hg : A.grownBy B (some bs)) : FrE W B bs k :=
  have hz := h.size
  ⟨grown_trans h.grown hg, (hg.block _ (by omega) (fun e => by injection e with e; omega)).trans h.s, (hg.block _ (by omega) (fun e => by injection e with e; omega)).trans h.x, (hg.block _ (by omega) (fun e => by injection e with e; omega)).trans h.e, (hg.block _ (by omega) (fun e => by injection e with e; omega)).trans h.q⟩
theorem FrE.bl {W A B : World} {bs k : Nat} (h : FrE W A bs k) (hb : bs < W.heap.size) (hg : Bl A B) : FrE W B bs k := h.next hb (grown_bl hg _)
theorem FrE.start (W : World) (bs k : Nat) : FrE W ((((W.alloc (.cells #[.pointer (some ⟨bs, 0, none⟩)] 39)).alloc (.cells zC 30)).alloc (.cells #[.int .i64 0] 31)).alloc (.cells #[.int .i64 (k : Int)] 3)) bs k :=
  ⟨grown_bl ((((Bl.refl W).alloc _).alloc _).alloc _ |>.alloc _) _, (heap_old _ _ (by simp <;> omega)).trans (three_0 _ _ _ _), (heap_old _ _ (by simp <;> omega)).trans (three_1 _ _ _ _), (heap_old _ _ (by simp)).trans (heap_new' _ _ (by simp)), heap_new' _ _ (by simp)⟩
theorem eRead_res (a : Act) (d : Nat) (v : Value) (hd : 8 ≤ d) (w : World) : (results Tryz.f14 (a.put (some d) v).tmps).run Tryz.prog w = (results Tryz.f14 a.tmps).run Tryz.prog w := by
  have e : ∀ i, i < 8 → (a.tmps.setIfInBounds d v)[i]? = a.tmps[i]? := fun i hi => by rw [Array.getElem?_setIfInBounds_ne (by omega)]
  simp [results, Tryz.results14, Act.put, e]
theorem enters_eRead1 (args : Array Value) (w : World) : (callFunc 35 args).run Tryz.prog w = .ok (.enter 35 args) w := by
  simp [go_sem]
--BEGIN1
set_option maxHeartbeats 4000000 in
theorem eRead_any {W : World} {bs g cap k : Nat} {ts : List Tok} (h : Strm W bs g cap ts k) (hT : TokOK ts) : Calls Tryz.prog 14 #[.pointer (some ⟨bs, 0, none⟩)] W (ERPost bs g cap ts k W) := by
  have hne : readR ts k ≠ .out := by
    intro e
    have he := readR_ends hT h.lt
    rw [e] at he
    exact he
  obtain ⟨R, HR0⟩ : ∃ R, Hid (R = readR ts k) := ⟨_, rfl⟩
  have HNE := Lib.hid hne
  have H := Lib.hid h
  have HT := Lib.hid hT
  have hbl := h.lt'
  have hgl := h.gl
  have hmf : ∀ (fn : Fn) (first cap : Array Value) (w : World), (Instr.makeFunc fn first cap).run Tryz.prog w = .ok (.func fn first cap) w := fun _ _ _ _ => rfl
  have HF0 := Lib.hid (FrE.start W bs k)
  have HB0 := Lib.hid (((Bl.refl W).alloc (.cells #[.pointer (some ⟨bs, 0, none⟩)] 39)).alloc (.cells zC 30) |>.alloc (.cells #[.int .i64 0] 31))
  have HQ : Hid (∀ (c : _) (a : Act) (d : Nat) (v : Value) (w : World), 8 ≤ d → Leaves Tryz.prog Tryz.f14 (a.put (some d) v).tmps (ERPost bs g cap ts k W) (a.put (some d) v).defers (.panicking c) w → Leaves Tryz.prog Tryz.f14 a.tmps (ERPost bs g cap ts k W) a.defers (.panicking c) w) := fun c a d v w hd h => by
    rw [leaves_res (eRead_res a d v hd)] at h
    exact h
  clear h hT hne
  go_enter_defers Tryz.func14, Tryz.ntmps14
  go_wp2_with fail
  (with_reducible refine (tAt_any (H.out.bl HB0.out)).mono ?_)
  rintro e w1 ⟨rfl, rfl⟩
  go_wp2_with fail
  refine (wp_region_sL 8 (fun B => B.heap[W.heap.size]? = some (.cells #[.pointer (some ⟨bs, 0, none⟩)] 39 (0, 0))) ((.take 2 (.take 3 (.one 0 (.take 1 (.one 4 (.one 5 (.one 6 .done)))))))) (by kernel_rfl) (by kernel_rfl) (by kernel_rfl) (by kernel_rfl) (fun c a d v w hd h => HQ.out c a d v w hd h) ((HF0.out.bl hbl ((Bl.refl _).drew)).s) ?_) -- wp_region_sc 
  intro wd HWD hHeld
  refine sc_take' rfl (by rfl) (by intro w hSw; (try dsimp only at hSw); have a0 := cells1 hSw; go_simp; (try (first | with_reducible rfl | rfl))) ?_; (try simp only [Act.put, List.setIfInBounds_toArray, List.set_cons_zero, List.set_cons_succ])
  refine sc_take' rfl (by rfl) (by intro w hSw; (try dsimp only at hSw); have a0 := cells1 hSw; go_simp; (try (first | with_reducible rfl | rfl))) ?_; (try simp only [Act.put, List.setIfInBounds_toArray, List.set_cons_zero, List.set_cons_succ])
  refine sc_call' rfl (fun K hK => ?_); go_simp; ((with_reducible refine (elevels_any _).mono ?_); rintro e w2 ⟨rfl, hb2⟩; have HB2 := Lib.hid (HWD.out.call hb2); have HF2 := Lib.hid (HF0.out.bl hbl HB2.out); have hz2 := HF2.out.size; clear hb2); go_wp2_with fail; refine hK.out _ _ ((by first | exact HF5.out.s | exact HF2.out.s)) (fun hHeld2 => ?_); clear hHeld hK K; have hHeld := hHeld2; clear hHeld2
  refine sc_take' rfl (by rfl) (by intro w hSw; (try dsimp only at hSw); have a0 := cells1 hSw; go_simp; (try (first | with_reducible rfl | rfl))) ?_; (try simp only [Act.put, List.setIfInBounds_toArray, List.set_cons_zero, List.set_cons_succ])
  refine sc_call' rfl (fun K hK => ?_)
  go_simp
  refine (allP (steps ts) (steps ts) (Nat.le_refl _) 0 (by decide) _ bs g cap ts k 0 _ rfl ((H.out.bl (HB0.out.alloc _)).bl HB2.out) HT.out (by decide) HNE.out).mono ?_
  intro e w5 hp
  obtain ⟨hg5, k5, hs5, hcase⟩ := hp.open
  clear hp
  have HF5 := Lib.hid (HF2.out.next hbl hg5)
  have HS5 := Lib.hid hs5
  have hz5 := HF5.out.size
  rcases hcase with ⟨yk, y1, y2, y3, yt, yn, yo, ya, ysv, ycv, hr5, hA, rfl⟩ | ⟨c, hc, hr5, rfl⟩
  rotate_left
  · have HR5 := Lib.hid (show readR ts k = .bad c from hr5)
    have HC := Lib.hid hc
    have c0 := cells1 HF5.out.e
    have z0 : w5.frozen? ⟨W.heap.size + 2, 0, none⟩ = false := Lib.frozen_of_heap HF5.out.e 0
    clear hg5 hs5 hr5 hc
    go_wp2_with fail
    refine leaves_cons (f := 34) (args := #[.pointer (some ⟨W.heap.size + 2, 0, none⟩), .func (.func 35) #[] #[.pointer (some ⟨W.heap.size + 1, 0, none⟩), .pointer (some ⟨W.heap.size, 0, none⟩), .pointer (some ⟨W.heap.size + 3, 0, none⟩)]]) (by simp) (by simp [go_sem]) ?_
    have hclear := eRead1_any (A := w5.setCell ⟨W.heap.size + 2, 0, none⟩ (.int .i64 c)) (X := W.heap.size + 1) (Sb := W.heap.size) (Wb := W.heap.size + 3) (HS5.out.set1 (by omega) (by omega) _ _) H.out.lt ((heap_set_other _ ⟨W.heap.size + 2, 0, none⟩ _ _ (by show W.heap.size + 1 ≠ W.heap.size + 2; omega)).trans HF5.out.x) ((heap_set_other _ ⟨W.heap.size + 2, 0, none⟩ _ _ (by show W.heap.size ≠ W.heap.size + 2; omega)).trans HF5.out.s) ((heap_set_other _ ⟨W.heap.size + 2, 0, none⟩ _ _ (by show W.heap.size + 3 ≠ W.heap.size + 2; omega)).trans HF5.out.q) (by omega) (by omega) (by omega) (by omega)
    refine (ecaught_panic ⟨W.heap.size + 2, 0, none⟩ 0 c 35 #[] #[.pointer (some ⟨W.heap.size + 1, 0, none⟩), .pointer (some ⟨W.heap.size, 0, none⟩), .pointer (some ⟨W.heap.size + 3, 0, none⟩)] #[.pointer (some ⟨W.heap.size + 1, 0, none⟩), .pointer (some ⟨W.heap.size, 0, none⟩), .pointer (some ⟨W.heap.size + 3, 0, none⟩)] (by simp) w5 _ c0 z0 enters_eRead1 hclear).mono ?_
    rintro e u' w6 ⟨rfl, rfl, hg6, hs6⟩
    have hx5 := (heap_set_other w5 ⟨W.heap.size + 2, 0, none⟩ (.int .i64 c) (W.heap.size + 1) (by show W.heap.size + 1 ≠ W.heap.size + 2; omega)).trans HF5.out.x
    have hx6 := (hg6.block (W.heap.size + 1) (by rw [set8_size]; simp; omega) (fun e => by injection e with e; omega)).trans (set8_heap hx5 (.int .i64 0) (.int .i64 0) (.int .i64 0) (S []) (S []) (S []) (.int .i64 0) (.slice none 0 0))
    have he6 := (hg6.block (W.heap.size + 2) (by rw [set8_size]; simp; omega) (fun e => by injection e with e; omega)).trans ((set8_other _ (b := W.heap.size + 1) (by omega) _ _ _ _ _ _ _ _).trans (set1_heap HF5.out.e 0 (.int .i64 c)))
    obtain ⟨⟨q0, q1, q2, q3, q4, q5, q6, q7⟩, -⟩ := eight hx6
    have r0 : w6.cell? ⟨W.heap.size + 2, 0, none⟩ = some (.int .i64 c) := by rw [Lib.cell_of_heap he6]; rfl
    refine ⟨.tuple #[zV, .int .i64 c], ?_, grown_trans (grown_set8 (grown_newset HF5.out.grown 0 (by omega) _) (by omega) _ _ _ _ _ _ _ _) hg6, .inr ⟨c, HC.out, HR5.out, hs6, rfl⟩⟩
    simp [results, Tryz.results14, go_sem, q0, q1, q2, q3, q4, q5, q6, q7, r0]
  have HR5 := Lib.hid (show readR ts k = .good k5 _ from hr5)
  have HA5 := Lib.hid (show ReadsP (fun b => W.heap.size + 4 ≤ b) w5 (.slice ysv ya.length ycv) ya from hA.of fun b _ (hb : _ ≤ b) => by omega)
  clear hg5 hs5 hr5 hA
  obtain ⟨⟨e0, e1, e2, e3, e4, e5, e6, e7⟩, f0, f1, f3, f4, f5, f6, f7, f8⟩ := eight HF5.out.x
  go_wp2_with fail
  refine hK.out _ _ HF5.out.s (fun hHeld2 => ?_)
  clear hHeld hK K
  have hHeld := hHeld2
  clear hHeld2
  refine sc_call' rfl (fun K hK => ?_); go_simp; refine hK.out _ _ (((set8_other _ (b := W.heap.size + 1) (by omega) _ _ _ _ _ _ _ _).trans HF5.out.s)) (fun hHeld2 => ?_); clear hHeld hK K; have hHeld := hHeld2; clear hHeld2
  clear e0 e1 e2 e3 e4 e5 e6 e7 f0 f1 f3 f4 f5 f6 f7 f8
  have HE7 := Lib.hid ((set8_other w5 (b := W.heap.size + 1) (i := W.heap.size + 2) (by omega) (.int .i64 yk) (.int .i64 y1) (.int .i64 y2) (S y3) (S yt) (S yn) (.int .i64 yo) (.slice ysv ya.length ycv)).trans HF5.out.e)
  have c0 := cells1 HE7.out
  have z0 := Lib.frozen_of_heap HE7.out 0
  refine sc_call' rfl (fun K hK => ?_); go_simp; refine hK.out _ _ (((heap_set_other _ ⟨W.heap.size + 2, 0, none⟩ _ _ (by show W.heap.size ≠ W.heap.size + 2; omega)).trans ((set8_other _ (b := W.heap.size + 1) (by omega) _ _ _ _ _ _ _ _).trans HF5.out.s))) (fun hHeld2 => ?_); clear hHeld hK K; have hHeld := hHeld2; clear hHeld2
  refine sc_nil ?_
  go_wp2_with fail
  refine leaves_cons (f := 34) (args := #[.pointer (some ⟨W.heap.size + 2, 0, none⟩), .func (.func 35) #[] #[.pointer (some ⟨W.heap.size + 1, 0, none⟩), .pointer (some ⟨W.heap.size, 0, none⟩), .pointer (some ⟨W.heap.size + 3, 0, none⟩)]]) (by simp) (by simp [go_sem]) ?_
  refine (ecaught_idle _ _ _).mono ?_
  rintro e u' w'' ⟨rfl, rfl, rfl⟩
  have hx7 := (heap_set_other _ ⟨W.heap.size + 2, 0, none⟩ (.int .i64 0) (W.heap.size + 1) (by show W.heap.size + 1 ≠ W.heap.size + 2; omega)).trans (set8_heap HF5.out.x (.int .i64 yk) (.int .i64 y1) (.int .i64 y2) (S y3) (S yt) (S yn) (.int .i64 yo) (.slice ysv ya.length ycv))
  have he7 := set1_heap HE7.out 0 (.int .i64 0)
  obtain ⟨⟨q0, q1, q2, q3, q4, q5, q6, q7⟩, -⟩ := eight hx7
  have r0 := cells1 (x := .int .i64 0) he7
  refine ⟨.tuple #[EV yk (y1, y2, y3) yt yn yo (.slice ysv ya.length ycv), .int .i64 0], ?_, grown_newset (grown_set8 HF5.out.grown (by omega) _ _ _ _ _ _ _ _) 0 (by omega) _, .inl ⟨k5, _, _, HR5.out, (HS5.out.set8 (by omega) (by omega) _ _ _ _ _ _ _ _).set1 (by omega) (by omega) _ _, ⟨_, rfl, ?_⟩, rfl⟩⟩
  · simp [results, Tryz.results14, go_sem, q0, q1, q2, q3, q4, q5, q6, q7, r0]
  · exact ((HA5.out.set8' (b := W.heap.size + 1) (fun i hi => by omega) _ _ _ _ _ _ _ _).keep (q := fun b => W.heap.size ≤ b) (fun b hb => by omega) fun i hi _ => heap_set_other _ ⟨W.heap.size + 2, 0, none⟩ _ _ (by show i ≠ W.heap.size + 2; omega))
--END1

end Go.Proofs.YtepkfkfedmbmnaaGreatDoor

namespace Go.Proofs.YtepkfkfedmbmnaaGreatDoor
open Go.RowKit
set_option maxRecDepth 100000

theorem bl_grown {W A B : World} {bs : Nat} (h : Bl W A) (hg : A.grownBy B (some bs)) (hb : W.heap.size ≤ bs) : Bl W B := Below.grown h hg h.size (fun j hj => by injection hj with hj; subst hj; exact hb)
--BEGIN1
set_option maxHeartbeats 2000000 in
theorem eParse_bad (s : List UInt8) (hs : s.length ≤ 9223372036854775807) (h : allErr s ≠ 0) (W : World) (hG : Glob W) : Calls Tryz.prog 8 #[S s] W (XParsePost s W) := by
  have HP := Lib.hid (parseX_bad h)
  have hX0 := heap_new W (.cells #[.int .i64 0, .int .i64 0, .int .i64 0, S [], S [], S [], .int .i64 0, .slice none 0 0] 30)
  have HB0 := Lib.hid ((Bl.refl W).alloc (.cells #[.int .i64 0, .int .i64 0, .int .i64 0, S [], S [], S [], .int .i64 0, .slice none 0 0] 30))
  have HG := Lib.hid hG
  have hb0 : (allErr s != 0) = true := by simpa using h
  have HA := Lib.hid h
  clear hG h
  go_enter Tryz.func8, Tryz.ntmps8
  go_wp2_with fail
  (with_reducible refine (tNew_bad s hs HA.out _ (HG.out.bl HB0.out)).mono ?_)
  rintro e w1 ⟨rfl, hb1⟩
  have HX1 := Lib.hid ((hb1.block _ (by simp)).trans hX0)
  have HB1 := Lib.hid (HB0.out.call hb1)
  clear hb1 hX0
  obtain ⟨⟨e0, e1, e2, e3, e4, e5, e6, e7⟩, f0, f1, f2, f3, f4, f5, f6, f7⟩ := eight HX1.out
  go_wp2
  -- the answer's place is laid; it is answered beside an error
  obtain ⟨⟨q0, q1, q2, q3, q4, q5, q6, q7⟩, -⟩ := eight (set8_heap (HX1.out) (.int .i64 0) (.int .i64 0) (.int .i64 0) (S []) (S []) (S []) (.int .i64 0) (.slice none 0 0))
  refine bodyPost_ret (v := .tuple #[.agg #[.int .i64 0, .int .i64 0, .int .i64 0, S [], S [], S [], .int .i64 0, .slice none 0 0], .int .i64 (allErr s)]) (by simp [results, Tryz.results8, go_sem, q0, q1, q2, q3, q4, q5, q6, q7]) rfl ?_
  exact ⟨_, by rw [HP.out]; exact readsE_zero _, by rw [HP.out], bl_set8 HB1.out (Nat.le_refl _) _ _ _ _ _ _ _ _⟩
--END1
--BEGIN2
set_option maxHeartbeats 4000000 in
theorem eParse_good (s : List UInt8) (hs : s.length ≤ 4000) (ts : List Tok) (h : toksO s = some ts) (W : World) (hG : Glob W) : Calls Tryz.prog 8 #[S s] W (XParsePost s W) := by
  have HT := Lib.hid (tok_ok h)
  have HG := Lib.hid hG
  have HTS := Lib.hid h
  have hP : parseX s = match readR (ts ++ [endTok s.length]) 0 with
      | .out => (0, zeroE)
      | .bad c => (c, zeroE)
      | .good k x => if ((ts ++ [endTok s.length])[k]?).map (·.k) = some 4 then (0, x) else (261, zeroE) := by
    unfold parseX
    rw [if_neg (by omega), h]
    rfl
  have HP := Lib.hid hP
  have hX0 := heap_new W (.cells #[.int .i64 0, .int .i64 0, .int .i64 0, S [], S [], S [], .int .i64 0, .slice none 0 0] 30)
  have HB0 := Lib.hid ((Bl.refl W).alloc (.cells #[.int .i64 0, .int .i64 0, .int .i64 0, S [], S [], S [], .int .i64 0, .slice none 0 0] 30))
  have hfld : ∀ (y : Tok) (w : World), Sem.run Tryz.prog (Instr.field 53 (TVt y) 0) w = .ok (.int .i64 y.k) w := fun _ _ => rfl
  clear hG h hP
  go_enter Tryz.func8, Tryz.ntmps8
  go_wp2_with fail
  (with_reducible refine (tNew_good s hs ts HTS.out _ (HG.out.bl HB0.out)).mono ?_)
  rintro e w1 ⟨bs, g, cap, rfl, hb1, hbs, hgs, hs1⟩
  rw [World.size_alloc] at hbs hgs
  have HX1 := Lib.hid ((hb1.block _ (by simp)).trans hX0)
  have HB1 := Lib.hid (HB0.out.call hb1)
  have HS1 := Lib.hid hs1
  have hz1 := (Array.getElem?_eq_some_iff.1 HX1.out).1
  generalize ts ++ [endTok s.length] = tl at *
  clear hb1 hX0 hs1
  go_wp2_with fail
  refine (eRead_any HS1.out HT.out).mono ?_
  rintro e w2 ⟨hg2, (⟨k', x, v, hr, hs2, ⟨sv, rfl, hA⟩, rfl⟩ | ⟨c, hc, hr, hs2, rfl⟩)⟩
  · obtain ⟨asv, csv, rfl⟩ := hA.shape
    obtain ⟨yk, ⟨y1, y2, y3⟩, yt, yn, yo, ya⟩ := x
    simp only [Ex.k, Ex.v, Ex.t, Ex.n, Ex.o, Ex.args] at hA ⊢
    have HX2 := Lib.hid ((hg2.block _ hz1 (fun e => by injection e with e; omega)).trans HX1.out)
    have HB2 := Lib.hid (bl_grown HB1.out hg2 (by omega))
    have HS2 := Lib.hid (hs2.bl ((Bl.refl w2).alloc (.cells #[.int .i64 yk, .int .i64 y1, .int .i64 y2, S y3, S yt, S yn, .int .i64 yo, .slice asv ya.length csv] 30)))
    have HA2 := Lib.hid (show ReadsP (fun b => W.heap.size + 1 ≤ b) w2 (.slice asv ya.length csv) ya from hA.of fun b _ (hb : _ ≤ b) => by omega)
    have hz2 := (Array.getElem?_eq_some_iff.1 HX2.out).1
    have hy : tl[k']? = some (tl[k']'hs2.lt) := List.getElem?_eq_getElem hs2.lt
    generalize tl[k']'hs2.lt = y at hy
    have hP := HP.out
    rw [hr] at hP
    simp only [hy, Option.map_some, Option.some.injEq] at hP
    have HY := Lib.hid hy
    have HXn := Lib.hid (heap_new w2 (.cells #[.int .i64 yk, .int .i64 y1, .int .i64 y2, S y3, S yt, S yn, .int .i64 yo, .slice asv ya.length csv] 30))
    have hf := hfld y
    clear hA hg2 hs2 hr hy hfld
    obtain ⟨tk, tp, tt, ta, tb, tc⟩ := y
    by_cases h4 : tk = 4
    · subst h4
      rw [if_pos rfl] at hP
      have HPP := Lib.hid hP
      clear hP
      go_wp2_with fail
      (with_reducible refine (tPeek_any HS2.out HY.out).mono ?_)
      rintro e w3 ⟨rfl, hb3⟩
      have HB3 := Lib.hid (((Bl.refl w2).alloc _).call hb3)
      have HX3 := Lib.hid ((HB3.out.block _ hz2).trans HX2.out)
      have HXm := Lib.hid ((hb3.block _ (by simp)).trans HXn.out)
      obtain ⟨⟨i0, i1, i2, i3, i4, i5, i6, i7⟩, -⟩ := eight HXm.out
      obtain ⟨⟨e0, e1, e2, e3, e4, e5, e6, e7⟩, f0, f1, f2, f3, f4, f5, f6, f7⟩ := eight HX3.out
      clear hb3
      go_wp2
      -- the answer's place is laid; it is answered beside an error
      obtain ⟨⟨q0, q1, q2, q3, q4, q5, q6, q7⟩, -⟩ := eight (set8_heap (HX3.out) (.int .i64 yk) (.int .i64 y1) (.int .i64 y2) (S y3) (S yt) (S yn) (.int .i64 yo) (.slice asv ya.length csv))
      refine bodyPost_ret (v := .tuple #[.agg #[.int .i64 yk, .int .i64 y1, .int .i64 y2, S y3, S yt, S yn, .int .i64 yo, .slice asv ya.length csv], .int .i64 0]) (by simp [results, Tryz.results8, go_sem, q0, q1, q2, q3, q4, q5, q6, q7]) rfl ?_
      refine ⟨_, ?_, by rw [HPP.out], bl_set8 (HB2.out.call HB3.out) (Nat.le_refl _) _ _ _ _ _ _ _ _⟩
      rw [HPP.out]
      exact ⟨_, rfl, ((HA2.out.bl HB3.out).set8' (fun i hi => by omega) _ _ _ _ _ _ _ _).reads⟩
    · rw [if_neg h4] at hP
      have HPP := Lib.hid hP
      have hb4 : (tk != 4) = true := by simpa using h4
      clear hP h4
      go_wp2_with fail
      (with_reducible refine (tPeek_any HS2.out HY.out).mono ?_)
      rintro e w3 ⟨rfl, hb3⟩
      have HB3 := Lib.hid (((Bl.refl w2).alloc _).call hb3)
      have HX3 := Lib.hid ((HB3.out.block _ hz2).trans HX2.out)
      obtain ⟨⟨e0, e1, e2, e3, e4, e5, e6, e7⟩, f0, f1, f2, f3, f4, f5, f6, f7⟩ := eight HX3.out
      clear hb3
      go_wp2
      -- the answer's place is laid; it is answered beside an error
      obtain ⟨⟨q0, q1, q2, q3, q4, q5, q6, q7⟩, -⟩ := eight (set8_heap (HX3.out) (.int .i64 0) (.int .i64 0) (.int .i64 0) (S []) (S []) (S []) (.int .i64 0) (.slice none 0 0))
      refine bodyPost_ret (v := .tuple #[.agg #[.int .i64 0, .int .i64 0, .int .i64 0, S [], S [], S [], .int .i64 0, .slice none 0 0], .int .i64 261]) (by simp [results, Tryz.results8, go_sem, q0, q1, q2, q3, q4, q5, q6, q7]) rfl ?_
      exact ⟨_, by rw [HPP.out]; exact readsE_zero _, by rw [HPP.out], bl_set8 (HB2.out.call HB3.out) (Nat.le_refl _) _ _ _ _ _ _ _ _⟩
  · have HX2 := Lib.hid ((hg2.block _ hz1 (fun e => by injection e with e; omega)).trans HX1.out)
    have HB2 := Lib.hid (bl_grown HB1.out hg2 (by omega))
    have hz2 := (Array.getElem?_eq_some_iff.1 HX2.out).1
    have hP := HP.out
    rw [hr] at hP
    have HPP := Lib.hid hP
    have hc0 : (c == 0) = false := by rcases hc with rfl | rfl <;> rfl
    have hc1 : (c != 0) = true := by rcases hc with rfl | rfl <;> rfl
    clear hP hg2 hs2 hr hc hfld
    obtain ⟨⟨e0, e1, e2, e3, e4, e5, e6, e7⟩, f0, f1, f2, f3, f4, f5, f6, f7⟩ := eight HX2.out
    go_wp2
    obtain ⟨⟨q0, q1, q2, q3, q4, q5, q6, q7⟩, -⟩ := eight ((heap_old (setZ w2 W.heap.size) (.cells #[.int .i64 0, .int .i64 0, .int .i64 0, .string ⟨#[]⟩, .string ⟨#[]⟩, .string ⟨#[]⟩, .int .i64 0, .slice none 0 0] 30) (by rw [set8_size]; exact hz2)).trans (set8_heap HX2.out (.int .i64 0) (.int .i64 0) (.int .i64 0) (S []) (S []) (S []) (.int .i64 0) (.slice none 0 0)))
    refine bodyPost_ret (v := .tuple #[zV, .int .i64 c]) (by simp [results, Tryz.results8, go_sem, q0, q1, q2, q3, q4, q5, q6, q7]) rfl ?_
    exact ⟨_, by rw [HPP.out]; exact readsE_zero _, by rw [HPP.out], (bl_set8 HB2.out (Nat.le_refl _) _ _ _ _ _ _ _ _).alloc _⟩
--END2
theorem eParse_any (s : List UInt8) (hs : s.length ≤ 9223372036854775807) (W : World) (hG : Glob W) : Calls Tryz.prog 8 #[S s] W (XParsePost s W) := by
  by_cases h : allErr s = 0
  · have hl : s.length ≤ 4000 := by
      unfold allErr at h
      split at h
      · cases h
      · omega
    cases ht : toksO s with
    | none =>
      unfold allErr at h
      rw [if_neg (by omega), if_pos ht] at h
      cases h
    | some ts => exact eParse_good s hl ts ht W hG
  · exact eParse_bad s hs h W hG

end Go.Proofs.YtepkfkfedmbmnaaGreatDoor

