/- ExprTexts' walk. -/
import Derived.Test.YtepkfkfedmbmnaaGreatDoorZR
import Derived.Test.YtepkfkfedmbmnaaGreatDoorZE
import Derived.Test.YtepkfkfedmbmnaaGreatDoorZD
import Derived.Test.YtepkfkfedmbmnaaGreatDoorZA
namespace Go.Proofs.YtepkfkfedmbmnaaGreatDoor
open Go.RowKit
set_option maxRecDepth 100000

theorem kept16 {A B : World} {b : Nat} {o : Obj} (h : A.heap[b]? = some o) (hb : Bl A B) : B.heap[b]? = some o := (hb.block _ (Array.getElem?_eq_some_iff.1 h).1).trans h

--BEGIN1
set_option maxHeartbeats 4000000 in
/-- One of them is too vast. -/
theorem etexts_off (x y : Ex) (W : World) (v u : Value) (hv : ReadsE W x v) (hu : ReadsE W y u) (hG : Glob W) (b c : Bool) (hbc : b = true ∨ c = true)
    (hb : ∀ w, Bl W w → Calls Tryz.prog 19 #[v, .int .i64 60] w fun e w' => e = .returned (.bool b) ∧ Bl w w') (hc : ∀ w, Bl W w → Calls Tryz.prog 19 #[u, .int .i64 60] w fun e w' => e = .returned (.bool c) ∧ Bl w w') :
    Calls Tryz.prog 6 #[v, u] W (Yes W) := by
  have HG := Lib.hid hG
  have HVA := Lib.hid hb
  have HVB := Lib.hid hc
  obtain ⟨sv, rfl, hR⟩ := hv
  obtain ⟨a, cap, rfl, -⟩ := hR.shape
  obtain ⟨su, rfl, hRu⟩ := hu
  obtain ⟨a2, cap2, rfl, -⟩ := hRu.shape
  clear hR hRu hG hb hc
  obtain ⟨k, ⟨v1, v2, v3⟩, t, n, o, args⟩ := x
  obtain ⟨k2, ⟨u1, u2, u3⟩, t2, n2, o2, args2⟩ := y
  simp only [Ex.k, Ex.v, Ex.t, Ex.n, Ex.o, Ex.args] at *
  have HB0 := Lib.hid (((Bl.refl W).alloc (.cells #[.int .i64 k, .int .i64 v1, .int .i64 v2, S v3, S t, S n, .int .i64 o, .slice a args.length cap] 30)).alloc (.cells #[.int .i64 k2, .int .i64 u1, .int .i64 u2, S u3, S t2, S n2, .int .i64 o2, .slice a2 args2.length cap2] 30))
  have HY0 := Lib.hid (two_1 W (.cells #[.int .i64 k, .int .i64 v1, .int .i64 v2, S v3, S t, S n, .int .i64 o, .slice a args.length cap] 30) (.cells #[.int .i64 k2, .int .i64 u1, .int .i64 u2, S u3, S t2, S n2, .int .i64 o2, .slice a2 args2.length cap2] 30))
  cases hb : b
  case true =>
    clear hbc
    subst hb
    go_enter Tryz.func6, Tryz.ntmps6
    go_wp2_with fail
    refine (HVA.out _ HB0.out).mono ?_
    rintro e w1 ⟨rfl, hb1⟩
    have HB1 := Lib.hid (HB0.out.call hb1)
    clear hb1
    go_wp2_with fail
    (with_reducible refine (works16_any _ (HG.out.bl HB1.out)).mono ?_)
    rintro e w2 ⟨rfl, hb2⟩
    go_wp2
    go_ret
    exact ⟨rfl, HB1.out.call hb2⟩
  case false =>
    obtain rfl : c = true := by rcases hbc with h | h; · rw [hb] at h; cases h
                                · exact h
    subst hb
    clear hbc
    go_enter Tryz.func6, Tryz.ntmps6
    go_wp2_with fail
    refine (HVA.out _ HB0.out).mono ?_
    rintro e w1 ⟨rfl, hb1⟩
    have HB1 := Lib.hid (HB0.out.call hb1)
    have HY1 := Lib.hid ((hb1.block (W.heap.size + 1) (by simp)).trans HY0.out)
    obtain ⟨⟨e0, e1, e2, e3, e4, e5, e6, e7⟩, -⟩ := eight HY1.out
    clear hb1
    go_wp2_with fail
    refine (HVB.out _ HB1.out).mono ?_
    rintro e w2 ⟨rfl, hb2⟩
    have HB2 := Lib.hid (HB1.out.call hb2)
    clear hb2
    go_wp2_with fail
    (with_reducible refine (works16_any _ (HG.out.bl HB2.out)).mono ?_)
    rintro e w3 ⟨rfl, hb3⟩
    go_wp2
    go_ret
    exact ⟨rfl, HB2.out.call hb3⟩
--END1
--BEGIN2
set_option maxHeartbeats 8000000 in
theorem etexts_no (x y : Ex) (W : World) (v u : Value) (hv : ReadsE W x v) (hu : ReadsE W y u) (hG : Glob W) (sm su' : Bool)
    (HVA : Hid (∀ w, Bl W w → Calls Tryz.prog 19 #[v, .int .i64 60] w fun e w' => e = .returned (.bool false) ∧ Bl w w')) (HVB : Hid (∀ w, Bl W w → Calls Tryz.prog 19 #[u, .int .i64 60] w fun e w' => e = .returned (.bool false) ∧ Bl w w'))
    (HTX : Hid (∀ w, Bl W w → Calls Tryz.prog 20 #[v] w fun e w' => e = .returned (.tuple #[S [], .int .i64 2]) ∧ Bl w w'))
    (HSM : Hid (∀ w, Bl W w → Calls Tryz.prog 22 #[v, u] w fun e w' => e = .returned (.bool sm) ∧ Bl w w')) (HXS : Hid (∀ w, Bl W w → Calls Tryz.prog 10 #[v, u] w fun e w' => e = .returned (.bool sm) ∧ Bl w w'))
    (HSU : Hid (∀ w, Bl W w → Calls Tryz.prog 23 #[v] w fun e w' => e = .returned (.bool su') ∧ Bl w w')) (HXU : Hid (∀ w, Bl W w → Calls Tryz.prog 24 #[v] w fun e w' => e = .returned (.bool su') ∧ Bl w w'))
    (HSS : Hid (∀ w, Bl W w → Calls Tryz.prog 22 #[v, v] w fun e w' => e = .returned (.bool true) ∧ Bl w w')) (HXR : Hid (∀ w, Bl W w → Calls Tryz.prog 25 #[v] w fun e w' => e = .returned (.bool false) ∧ Bl w w'))
    (HCK : Hid (∀ w, Bl W w → Calls Tryz.prog 26 #[v] w fun e w' => e = .returned (.int .i64 2) ∧ Bl w w')) : Calls Tryz.prog 6 #[v, u] W (Yes W) := by
  have HG := Lib.hid hG
  obtain ⟨sv, rfl, hR⟩ := hv
  obtain ⟨a, cap, rfl, -⟩ := hR.shape
  obtain ⟨su, rfl, hRu⟩ := hu
  obtain ⟨a2, cap2, rfl, -⟩ := hRu.shape
  clear hR hRu hG
  obtain ⟨k, ⟨v1, v2, v3⟩, t, n, o, args⟩ := x
  obtain ⟨k2, ⟨u1, u2, u3⟩, t2, n2, o2, args2⟩ := y
  simp only [Ex.k, Ex.v, Ex.t, Ex.n, Ex.o, Ex.args] at *
  have HB0 := Lib.hid (((Bl.refl W).alloc (.cells #[.int .i64 k, .int .i64 v1, .int .i64 v2, S v3, S t, S n, .int .i64 o, .slice a args.length cap] 30)).alloc (.cells #[.int .i64 k2, .int .i64 u1, .int .i64 u2, S u3, S t2, S n2, .int .i64 o2, .slice a2 args2.length cap2] 30))
  have HX0 := Lib.hid (two_0 W (.cells #[.int .i64 k, .int .i64 v1, .int .i64 v2, S v3, S t, S n, .int .i64 o, .slice a args.length cap] 30) (.cells #[.int .i64 k2, .int .i64 u1, .int .i64 u2, S u3, S t2, S n2, .int .i64 o2, .slice a2 args2.length cap2] 30))
  have HY0 := Lib.hid (two_1 W (.cells #[.int .i64 k, .int .i64 v1, .int .i64 v2, S v3, S t, S n, .int .i64 o, .slice a args.length cap] 30) (.cells #[.int .i64 k2, .int .i64 u1, .int .i64 u2, S u3, S t2, S n2, .int .i64 o2, .slice a2 args2.length cap2] 30))
  go_enter Tryz.func6, Tryz.ntmps6
  go_wp2_with fail
  refine (HVA.out _ HB0.out).mono ?_
  rintro e w1 ⟨rfl, hb1⟩
  have HB1 := Lib.hid (HB0.out.call hb1)
  have HX1 := Lib.hid ((hb1.block W.heap.size (by simp; omega)).trans HX0.out)
  have HY1 := Lib.hid ((hb1.block (W.heap.size + 1) (by simp)).trans HY0.out)
  obtain ⟨⟨i0, i1, i2, i3, i4, i5, i6, i7⟩, -⟩ := eight HY1.out
  clear hb1
  go_wp2_with fail
  refine (HVB.out _ HB1.out).mono ?_
  rintro e w2 ⟨rfl, hb2⟩
  have HB2 := Lib.hid (HB1.out.call hb2)
  have HX2 := Lib.hid (kept16 HX1.out hb2)
  have HY2 := Lib.hid (kept16 HY1.out hb2)
  clear hb2 i0 i1 i2 i3 i4 i5 i6 i7
  obtain ⟨⟨e0, e1, e2, e3, e4, e5, e6, e7⟩, -⟩ := eight HX2.out
  go_wp2_with fail
  refine (HTX.out _ HB2.out).mono ?_
  rintro e w3 ⟨rfl, hb3⟩
  have HB3 := Lib.hid (HB2.out.call hb3)
  have HX3 := Lib.hid (kept16 HX2.out hb3)
  have HY3 := Lib.hid (kept16 HY2.out hb3)
  clear hb3 e0 e1 e2 e3 e4 e5 e6 e7
  go_wp2_with fail
  refine wp_region_noPanic (wp_region_sd (fun B => Bl W B ∧ B.heap[W.heap.size]? = some (.cells #[.int .i64 k, .int .i64 v1, .int .i64 v2, S v3, S t, S n, .int .i64 o, .slice a args.length cap] 30 (0, 0)) ∧ B.heap[W.heap.size + 1]? = some (.cells #[.int .i64 k2, .int .i64 u1, .int .i64 u2, S u3, S t2, S n2, .int .i64 o2, .slice a2 args2.length cap2] 30 (0, 0))) ((.take 0 (.take 1 (.take 3 (.take 4 (.one 2 (.one 5 (.take 6 (.take 7 (.take 8 (.take 10 (.one 9 (.one 11 (.take 12 (.take 13 (.take 14 (.take 15 (.take 16 (.one 17 (.take 18 (.take 19 .done))))))))))))))))))))) (by kernel_rfl) (by kernel_rfl) (by kernel_rfl) (fun _ _ _ _ _ h => h) (⟨HB3.out.drew, HX3.out, HY3.out⟩) ?_) -- wp_region_sc 
  intro wd HWD hHeld
  refine sc_take' rfl (by rfl) (by intro w hSw; (try dsimp only at hSw); obtain ⟨⟨e0, e1, e2, e3, e4, e5, e6, e7⟩, -⟩ := eight hSw.2.1; obtain ⟨⟨i0, i1, i2, i3, i4, i5, i6, i7⟩, -⟩ := eight hSw.2.2; clear hSw; go_simp; (try (first | with_reducible rfl | rfl))) ?_; (try simp only [Act.put, List.setIfInBounds_toArray, List.set_cons_zero, List.set_cons_succ])
  refine sc_take' rfl (by rfl) (by intro w hSw; (try dsimp only at hSw); obtain ⟨⟨e0, e1, e2, e3, e4, e5, e6, e7⟩, -⟩ := eight hSw.2.1; obtain ⟨⟨i0, i1, i2, i3, i4, i5, i6, i7⟩, -⟩ := eight hSw.2.2; clear hSw; go_simp; (try (first | with_reducible rfl | rfl))) ?_; (try simp only [Act.put, List.setIfInBounds_toArray, List.set_cons_zero, List.set_cons_succ])
  refine sc_take' rfl (by rfl) (by intro w hSw; (try dsimp only at hSw); obtain ⟨⟨e0, e1, e2, e3, e4, e5, e6, e7⟩, -⟩ := eight hSw.2.1; obtain ⟨⟨i0, i1, i2, i3, i4, i5, i6, i7⟩, -⟩ := eight hSw.2.2; clear hSw; go_simp; (try (first | with_reducible rfl | rfl))) ?_; (try simp only [Act.put, List.setIfInBounds_toArray, List.set_cons_zero, List.set_cons_succ])
  refine sc_take' rfl (by rfl) (by intro w hSw; (try dsimp only at hSw); obtain ⟨⟨e0, e1, e2, e3, e4, e5, e6, e7⟩, -⟩ := eight hSw.2.1; obtain ⟨⟨i0, i1, i2, i3, i4, i5, i6, i7⟩, -⟩ := eight hSw.2.2; clear hSw; go_simp; (try (first | with_reducible rfl | rfl))) ?_; (try simp only [Act.put, List.setIfInBounds_toArray, List.set_cons_zero, List.set_cons_succ])
  refine sc_call' rfl (fun K hK => ?_); go_simp; (refine (HSM.out _ hHeld.1).mono ?_; rintro e w ⟨rfl, hb⟩); go_wp2_with fail; refine hK.out _ _ ((by first | exact hHeld | exact ⟨hHeld.1.call hb, kept16 hHeld.2.1 hb, kept16 hHeld.2.2 hb⟩)) (fun hHeld2 => ?_); clear hHeld hK K; have hHeld := hHeld2; clear hHeld2
  refine sc_call' rfl (fun K hK => ?_); go_simp; (refine (HXS.out _ hHeld.1).mono ?_; rintro e w ⟨rfl, hb⟩); go_wp2_with fail; refine hK.out _ _ ((by first | exact hHeld | exact ⟨hHeld.1.call hb, kept16 hHeld.2.1 hb, kept16 hHeld.2.2 hb⟩)) (fun hHeld2 => ?_); clear hHeld hK K; have hHeld := hHeld2; clear hHeld2
  refine sc_take' rfl (by rfl) (by intro w hSw; (try dsimp only at hSw); obtain ⟨⟨e0, e1, e2, e3, e4, e5, e6, e7⟩, -⟩ := eight hSw.2.1; obtain ⟨⟨i0, i1, i2, i3, i4, i5, i6, i7⟩, -⟩ := eight hSw.2.2; clear hSw; go_simp; (try (first | with_reducible rfl | rfl))) ?_; (try simp only [Act.put, List.setIfInBounds_toArray, List.set_cons_zero, List.set_cons_succ])
  refine sc_take' rfl (by rfl) (by intro w hSw; (try dsimp only at hSw); obtain ⟨⟨e0, e1, e2, e3, e4, e5, e6, e7⟩, -⟩ := eight hSw.2.1; obtain ⟨⟨i0, i1, i2, i3, i4, i5, i6, i7⟩, -⟩ := eight hSw.2.2; clear hSw; go_simp; (try (first | with_reducible rfl | rfl))) ?_; (try simp only [Act.put, List.setIfInBounds_toArray, List.set_cons_zero, List.set_cons_succ])
  refine sc_take' rfl (by rfl) (by intro w hSw; (try dsimp only at hSw); obtain ⟨⟨e0, e1, e2, e3, e4, e5, e6, e7⟩, -⟩ := eight hSw.2.1; obtain ⟨⟨i0, i1, i2, i3, i4, i5, i6, i7⟩, -⟩ := eight hSw.2.2; clear hSw; go_simp; (try (first | with_reducible rfl | rfl))) ?_; (try simp only [Act.put, List.setIfInBounds_toArray, List.set_cons_zero, List.set_cons_succ])
  refine sc_take' rfl (by rfl) (by intro w hSw; (try dsimp only at hSw); obtain ⟨⟨e0, e1, e2, e3, e4, e5, e6, e7⟩, -⟩ := eight hSw.2.1; obtain ⟨⟨i0, i1, i2, i3, i4, i5, i6, i7⟩, -⟩ := eight hSw.2.2; clear hSw; go_simp; (try (first | with_reducible rfl | rfl))) ?_; (try simp only [Act.put, List.setIfInBounds_toArray, List.set_cons_zero, List.set_cons_succ])
  refine sc_call' rfl (fun K hK => ?_); go_simp; (refine (HSU.out _ hHeld.1).mono ?_; rintro e w ⟨rfl, hb⟩); go_wp2_with fail; refine hK.out _ _ ((by first | exact hHeld | exact ⟨hHeld.1.call hb, kept16 hHeld.2.1 hb, kept16 hHeld.2.2 hb⟩)) (fun hHeld2 => ?_); clear hHeld hK K; have hHeld := hHeld2; clear hHeld2
  refine sc_call' rfl (fun K hK => ?_); go_simp; (refine (HXU.out _ hHeld.1).mono ?_; rintro e w ⟨rfl, hb⟩); go_wp2_with fail; refine hK.out _ _ ((by first | exact hHeld | exact ⟨hHeld.1.call hb, kept16 hHeld.2.1 hb, kept16 hHeld.2.2 hb⟩)) (fun hHeld2 => ?_); clear hHeld hK K; have hHeld := hHeld2; clear hHeld2
  refine sc_take' rfl (by rfl) (by intro w hSw; (try dsimp only at hSw); obtain ⟨⟨e0, e1, e2, e3, e4, e5, e6, e7⟩, -⟩ := eight hSw.2.1; obtain ⟨⟨i0, i1, i2, i3, i4, i5, i6, i7⟩, -⟩ := eight hSw.2.2; clear hSw; go_simp; (try (first | with_reducible rfl | rfl))) ?_; (try simp only [Act.put, List.setIfInBounds_toArray, List.set_cons_zero, List.set_cons_succ])
  refine sc_take' rfl (by rfl) (by intro w hSw; (try dsimp only at hSw); obtain ⟨⟨e0, e1, e2, e3, e4, e5, e6, e7⟩, -⟩ := eight hSw.2.1; obtain ⟨⟨i0, i1, i2, i3, i4, i5, i6, i7⟩, -⟩ := eight hSw.2.2; clear hSw; go_simp; (try (first | with_reducible rfl | rfl))) ?_; (try simp only [Act.put, List.setIfInBounds_toArray, List.set_cons_zero, List.set_cons_succ])
  refine sc_take' rfl (by rfl) (by intro w hSw; (try dsimp only at hSw); obtain ⟨⟨e0, e1, e2, e3, e4, e5, e6, e7⟩, -⟩ := eight hSw.2.1; obtain ⟨⟨i0, i1, i2, i3, i4, i5, i6, i7⟩, -⟩ := eight hSw.2.2; clear hSw; go_simp; (try (first | with_reducible rfl | rfl))) ?_; (try simp only [Act.put, List.setIfInBounds_toArray, List.set_cons_zero, List.set_cons_succ])
  refine sc_take' rfl (by rfl) (by intro w hSw; (try dsimp only at hSw); obtain ⟨⟨e0, e1, e2, e3, e4, e5, e6, e7⟩, -⟩ := eight hSw.2.1; obtain ⟨⟨i0, i1, i2, i3, i4, i5, i6, i7⟩, -⟩ := eight hSw.2.2; clear hSw; go_simp; (try (first | with_reducible rfl | rfl))) ?_; (try simp only [Act.put, List.setIfInBounds_toArray, List.set_cons_zero, List.set_cons_succ])
  refine sc_take' rfl (by rfl) (by intro w hSw; (try dsimp only at hSw); obtain ⟨⟨e0, e1, e2, e3, e4, e5, e6, e7⟩, -⟩ := eight hSw.2.1; obtain ⟨⟨i0, i1, i2, i3, i4, i5, i6, i7⟩, -⟩ := eight hSw.2.2; clear hSw; go_simp; (try (first | with_reducible rfl | rfl))) ?_; (try simp only [Act.put, List.setIfInBounds_toArray, List.set_cons_zero, List.set_cons_succ])
  refine sc_call' rfl (fun K hK => ?_); go_simp; (refine (HSS.out _ hHeld.1).mono ?_; rintro e w9 ⟨rfl, hb⟩); go_wp2_with fail; refine hK.out _ _ ((by first | exact hHeld | exact ⟨hHeld.1.call hb, kept16 hHeld.2.1 hb, kept16 hHeld.2.2 hb⟩)) (fun hHeld2 => ?_); clear hHeld hK K; have hHeld := hHeld2; clear hHeld2
  refine sc_take' rfl (by rfl) (by intro w hSw; (try dsimp only at hSw); obtain ⟨⟨e0, e1, e2, e3, e4, e5, e6, e7⟩, -⟩ := eight hSw.2.1; obtain ⟨⟨i0, i1, i2, i3, i4, i5, i6, i7⟩, -⟩ := eight hSw.2.2; clear hSw; go_simp; (try (first | with_reducible rfl | rfl))) ?_; (try simp only [Act.put, List.setIfInBounds_toArray, List.set_cons_zero, List.set_cons_succ])
  refine sc_take' rfl (by rfl) (by intro w hSw; (try dsimp only at hSw); obtain ⟨⟨e0, e1, e2, e3, e4, e5, e6, e7⟩, -⟩ := eight hSw.2.1; obtain ⟨⟨i0, i1, i2, i3, i4, i5, i6, i7⟩, -⟩ := eight hSw.2.2; clear hSw; go_simp; (try (first | with_reducible rfl | rfl))) ?_; (try simp only [Act.put, List.setIfInBounds_toArray, List.set_cons_zero, List.set_cons_succ])
  refine sc_nil (NoPanic.normal ?_)
  have HB4 := Lib.hid hHeld.1
  have HX4 := Lib.hid hHeld.2.1
  clear hHeld
  obtain ⟨⟨e0, e1, e2, e3, e4, e5, e6, e7⟩, -⟩ := eight HX4.out
  go_wp2_with fail
  refine (HXR.out _ HB4.out).mono ?_
  rintro e w10 ⟨rfl, hb10⟩
  have HB5 := Lib.hid (HB4.out.call hb10)
  have HX5 := Lib.hid (kept16 HX4.out hb10)
  clear hb10 e0 e1 e2 e3 e4 e5 e6 e7
  go_wp2_with fail
  (with_reducible refine (num16_any _ _).mono ?_)
  rintro e w' ⟨rfl, rfl⟩
  obtain ⟨⟨e0, e1, e2, e3, e4, e5, e6, e7⟩, -⟩ := eight HX5.out
  go_wp2_with fail
  refine (HCK.out _ HB5.out).mono ?_
  rintro e w11 ⟨rfl, hb11⟩
  have HB6 := Lib.hid (HB5.out.call hb11)
  clear hb11 e0 e1 e2 e3 e4 e5 e6 e7
  go_wp2_with fail
  (with_reducible refine (num16_any _ _).mono ?_)
  rintro e w' ⟨rfl, rfl⟩
  go_wp2_with fail
  (with_reducible refine (works16_any _ (HG.out.bl HB6.out)).mono ?_)
  rintro e w12 ⟨rfl, hb12⟩
  go_wp2
  go_ret
  exact ⟨rfl, HB6.out.call hb12⟩
--END2
--BEGIN3
set_option maxHeartbeats 8000000 in
theorem etexts_yes (x y : Ex) (W : World) (v u : Value) (hv : ReadsE W x v) (hu : ReadsE W y u) (hG : Glob W) (sm su' : Bool) (s : List UInt8)
    (HVA : Hid (∀ w, Bl W w → Calls Tryz.prog 19 #[v, .int .i64 60] w fun e w' => e = .returned (.bool false) ∧ Bl w w')) (HVB : Hid (∀ w, Bl W w → Calls Tryz.prog 19 #[u, .int .i64 60] w fun e w' => e = .returned (.bool false) ∧ Bl w w'))
    (HTX : Hid (∀ w, Bl W w → Calls Tryz.prog 20 #[v] w fun e w' => e = .returned (.tuple #[S s, .int .i64 0]) ∧ Bl w w'))
    (HSM : Hid (∀ w, Bl W w → Calls Tryz.prog 22 #[v, u] w fun e w' => e = .returned (.bool sm) ∧ Bl w w')) (HXS : Hid (∀ w, Bl W w → Calls Tryz.prog 10 #[v, u] w fun e w' => e = .returned (.bool sm) ∧ Bl w w'))
    (HSU : Hid (∀ w, Bl W w → Calls Tryz.prog 23 #[v] w fun e w' => e = .returned (.bool su') ∧ Bl w w')) (HXU : Hid (∀ w, Bl W w → Calls Tryz.prog 24 #[v] w fun e w' => e = .returned (.bool su') ∧ Bl w w'))
    (HSS : Hid (∀ w, Bl W w → Calls Tryz.prog 22 #[v, v] w fun e w' => e = .returned (.bool true) ∧ Bl w w')) (HXR : Hid (∀ w, Bl W w → Calls Tryz.prog 25 #[v] w fun e w' => e = .returned (.bool true) ∧ Bl w w'))
    (HXT : Hid (∀ w, Bl W w → Calls Tryz.prog 27 #[v] w fun e w' => e = .returned (S s) ∧ Bl w w'))
    (HCK : Hid (∀ w, Bl W w → Calls Tryz.prog 26 #[v] w fun e w' => e = .returned (.int .i64 0) ∧ Bl w w')) : Calls Tryz.prog 6 #[v, u] W (Yes W) := by
  have HG := Lib.hid hG
  obtain ⟨sv, rfl, hR⟩ := hv
  obtain ⟨a, cap, rfl, -⟩ := hR.shape
  obtain ⟨su, rfl, hRu⟩ := hu
  obtain ⟨a2, cap2, rfl, -⟩ := hRu.shape
  clear hR hRu hG
  obtain ⟨k, ⟨v1, v2, v3⟩, t, n, o, args⟩ := x
  obtain ⟨k2, ⟨u1, u2, u3⟩, t2, n2, o2, args2⟩ := y
  simp only [Ex.k, Ex.v, Ex.t, Ex.n, Ex.o, Ex.args] at *
  have HB0 := Lib.hid (((Bl.refl W).alloc (.cells #[.int .i64 k, .int .i64 v1, .int .i64 v2, S v3, S t, S n, .int .i64 o, .slice a args.length cap] 30)).alloc (.cells #[.int .i64 k2, .int .i64 u1, .int .i64 u2, S u3, S t2, S n2, .int .i64 o2, .slice a2 args2.length cap2] 30))
  have HX0 := Lib.hid (two_0 W (.cells #[.int .i64 k, .int .i64 v1, .int .i64 v2, S v3, S t, S n, .int .i64 o, .slice a args.length cap] 30) (.cells #[.int .i64 k2, .int .i64 u1, .int .i64 u2, S u3, S t2, S n2, .int .i64 o2, .slice a2 args2.length cap2] 30))
  have HY0 := Lib.hid (two_1 W (.cells #[.int .i64 k, .int .i64 v1, .int .i64 v2, S v3, S t, S n, .int .i64 o, .slice a args.length cap] 30) (.cells #[.int .i64 k2, .int .i64 u1, .int .i64 u2, S u3, S t2, S n2, .int .i64 o2, .slice a2 args2.length cap2] 30))
  go_enter Tryz.func6, Tryz.ntmps6
  go_wp2_with fail
  refine (HVA.out _ HB0.out).mono ?_
  rintro e w1 ⟨rfl, hb1⟩
  have HB1 := Lib.hid (HB0.out.call hb1)
  have HX1 := Lib.hid ((hb1.block W.heap.size (by simp; omega)).trans HX0.out)
  have HY1 := Lib.hid ((hb1.block (W.heap.size + 1) (by simp)).trans HY0.out)
  obtain ⟨⟨i0, i1, i2, i3, i4, i5, i6, i7⟩, -⟩ := eight HY1.out
  clear hb1
  go_wp2_with fail
  refine (HVB.out _ HB1.out).mono ?_
  rintro e w2 ⟨rfl, hb2⟩
  have HB2 := Lib.hid (HB1.out.call hb2)
  have HX2 := Lib.hid (kept16 HX1.out hb2)
  have HY2 := Lib.hid (kept16 HY1.out hb2)
  clear hb2 i0 i1 i2 i3 i4 i5 i6 i7
  obtain ⟨⟨e0, e1, e2, e3, e4, e5, e6, e7⟩, -⟩ := eight HX2.out
  go_wp2_with fail
  refine (HTX.out _ HB2.out).mono ?_
  rintro e w3 ⟨rfl, hb3⟩
  have HB3 := Lib.hid (HB2.out.call hb3)
  have HX3 := Lib.hid (kept16 HX2.out hb3)
  have HY3 := Lib.hid (kept16 HY2.out hb3)
  clear hb3 e0 e1 e2 e3 e4 e5 e6 e7
  go_wp2_with fail
  refine wp_region_noPanic (wp_region_sd (fun B => Bl W B ∧ B.heap[W.heap.size]? = some (.cells #[.int .i64 k, .int .i64 v1, .int .i64 v2, S v3, S t, S n, .int .i64 o, .slice a args.length cap] 30 (0, 0)) ∧ B.heap[W.heap.size + 1]? = some (.cells #[.int .i64 k2, .int .i64 u1, .int .i64 u2, S u3, S t2, S n2, .int .i64 o2, .slice a2 args2.length cap2] 30 (0, 0))) ((.take 0 (.take 1 (.take 3 (.take 4 (.one 2 (.one 5 (.take 6 (.take 7 (.take 8 (.take 10 (.one 9 (.one 11 (.take 12 (.take 13 (.take 14 (.take 15 (.take 16 (.one 17 (.take 18 (.take 19 .done))))))))))))))))))))) (by kernel_rfl) (by kernel_rfl) (by kernel_rfl) (fun _ _ _ _ _ h => h) (⟨HB3.out.drew, HX3.out, HY3.out⟩) ?_) -- wp_region_sc 
  intro wd HWD hHeld
  refine sc_take' rfl (by rfl) (by intro w hSw; (try dsimp only at hSw); obtain ⟨⟨e0, e1, e2, e3, e4, e5, e6, e7⟩, -⟩ := eight hSw.2.1; obtain ⟨⟨i0, i1, i2, i3, i4, i5, i6, i7⟩, -⟩ := eight hSw.2.2; clear hSw; go_simp; (try (first | with_reducible rfl | rfl))) ?_; (try simp only [Act.put, List.setIfInBounds_toArray, List.set_cons_zero, List.set_cons_succ])
  refine sc_take' rfl (by rfl) (by intro w hSw; (try dsimp only at hSw); obtain ⟨⟨e0, e1, e2, e3, e4, e5, e6, e7⟩, -⟩ := eight hSw.2.1; obtain ⟨⟨i0, i1, i2, i3, i4, i5, i6, i7⟩, -⟩ := eight hSw.2.2; clear hSw; go_simp; (try (first | with_reducible rfl | rfl))) ?_; (try simp only [Act.put, List.setIfInBounds_toArray, List.set_cons_zero, List.set_cons_succ])
  refine sc_take' rfl (by rfl) (by intro w hSw; (try dsimp only at hSw); obtain ⟨⟨e0, e1, e2, e3, e4, e5, e6, e7⟩, -⟩ := eight hSw.2.1; obtain ⟨⟨i0, i1, i2, i3, i4, i5, i6, i7⟩, -⟩ := eight hSw.2.2; clear hSw; go_simp; (try (first | with_reducible rfl | rfl))) ?_; (try simp only [Act.put, List.setIfInBounds_toArray, List.set_cons_zero, List.set_cons_succ])
  refine sc_take' rfl (by rfl) (by intro w hSw; (try dsimp only at hSw); obtain ⟨⟨e0, e1, e2, e3, e4, e5, e6, e7⟩, -⟩ := eight hSw.2.1; obtain ⟨⟨i0, i1, i2, i3, i4, i5, i6, i7⟩, -⟩ := eight hSw.2.2; clear hSw; go_simp; (try (first | with_reducible rfl | rfl))) ?_; (try simp only [Act.put, List.setIfInBounds_toArray, List.set_cons_zero, List.set_cons_succ])
  refine sc_call' rfl (fun K hK => ?_); go_simp; (refine (HSM.out _ hHeld.1).mono ?_; rintro e w ⟨rfl, hb⟩); go_wp2_with fail; refine hK.out _ _ ((by first | exact hHeld | exact ⟨hHeld.1.call hb, kept16 hHeld.2.1 hb, kept16 hHeld.2.2 hb⟩)) (fun hHeld2 => ?_); clear hHeld hK K; have hHeld := hHeld2; clear hHeld2
  refine sc_call' rfl (fun K hK => ?_); go_simp; (refine (HXS.out _ hHeld.1).mono ?_; rintro e w ⟨rfl, hb⟩); go_wp2_with fail; refine hK.out _ _ ((by first | exact hHeld | exact ⟨hHeld.1.call hb, kept16 hHeld.2.1 hb, kept16 hHeld.2.2 hb⟩)) (fun hHeld2 => ?_); clear hHeld hK K; have hHeld := hHeld2; clear hHeld2
  refine sc_take' rfl (by rfl) (by intro w hSw; (try dsimp only at hSw); obtain ⟨⟨e0, e1, e2, e3, e4, e5, e6, e7⟩, -⟩ := eight hSw.2.1; obtain ⟨⟨i0, i1, i2, i3, i4, i5, i6, i7⟩, -⟩ := eight hSw.2.2; clear hSw; go_simp; (try (first | with_reducible rfl | rfl))) ?_; (try simp only [Act.put, List.setIfInBounds_toArray, List.set_cons_zero, List.set_cons_succ])
  refine sc_take' rfl (by rfl) (by intro w hSw; (try dsimp only at hSw); obtain ⟨⟨e0, e1, e2, e3, e4, e5, e6, e7⟩, -⟩ := eight hSw.2.1; obtain ⟨⟨i0, i1, i2, i3, i4, i5, i6, i7⟩, -⟩ := eight hSw.2.2; clear hSw; go_simp; (try (first | with_reducible rfl | rfl))) ?_; (try simp only [Act.put, List.setIfInBounds_toArray, List.set_cons_zero, List.set_cons_succ])
  refine sc_take' rfl (by rfl) (by intro w hSw; (try dsimp only at hSw); obtain ⟨⟨e0, e1, e2, e3, e4, e5, e6, e7⟩, -⟩ := eight hSw.2.1; obtain ⟨⟨i0, i1, i2, i3, i4, i5, i6, i7⟩, -⟩ := eight hSw.2.2; clear hSw; go_simp; (try (first | with_reducible rfl | rfl))) ?_; (try simp only [Act.put, List.setIfInBounds_toArray, List.set_cons_zero, List.set_cons_succ])
  refine sc_take' rfl (by rfl) (by intro w hSw; (try dsimp only at hSw); obtain ⟨⟨e0, e1, e2, e3, e4, e5, e6, e7⟩, -⟩ := eight hSw.2.1; obtain ⟨⟨i0, i1, i2, i3, i4, i5, i6, i7⟩, -⟩ := eight hSw.2.2; clear hSw; go_simp; (try (first | with_reducible rfl | rfl))) ?_; (try simp only [Act.put, List.setIfInBounds_toArray, List.set_cons_zero, List.set_cons_succ])
  refine sc_call' rfl (fun K hK => ?_); go_simp; (refine (HSU.out _ hHeld.1).mono ?_; rintro e w ⟨rfl, hb⟩); go_wp2_with fail; refine hK.out _ _ ((by first | exact hHeld | exact ⟨hHeld.1.call hb, kept16 hHeld.2.1 hb, kept16 hHeld.2.2 hb⟩)) (fun hHeld2 => ?_); clear hHeld hK K; have hHeld := hHeld2; clear hHeld2
  refine sc_call' rfl (fun K hK => ?_); go_simp; (refine (HXU.out _ hHeld.1).mono ?_; rintro e w ⟨rfl, hb⟩); go_wp2_with fail; refine hK.out _ _ ((by first | exact hHeld | exact ⟨hHeld.1.call hb, kept16 hHeld.2.1 hb, kept16 hHeld.2.2 hb⟩)) (fun hHeld2 => ?_); clear hHeld hK K; have hHeld := hHeld2; clear hHeld2
  refine sc_take' rfl (by rfl) (by intro w hSw; (try dsimp only at hSw); obtain ⟨⟨e0, e1, e2, e3, e4, e5, e6, e7⟩, -⟩ := eight hSw.2.1; obtain ⟨⟨i0, i1, i2, i3, i4, i5, i6, i7⟩, -⟩ := eight hSw.2.2; clear hSw; go_simp; (try (first | with_reducible rfl | rfl))) ?_; (try simp only [Act.put, List.setIfInBounds_toArray, List.set_cons_zero, List.set_cons_succ])
  refine sc_take' rfl (by rfl) (by intro w hSw; (try dsimp only at hSw); obtain ⟨⟨e0, e1, e2, e3, e4, e5, e6, e7⟩, -⟩ := eight hSw.2.1; obtain ⟨⟨i0, i1, i2, i3, i4, i5, i6, i7⟩, -⟩ := eight hSw.2.2; clear hSw; go_simp; (try (first | with_reducible rfl | rfl))) ?_; (try simp only [Act.put, List.setIfInBounds_toArray, List.set_cons_zero, List.set_cons_succ])
  refine sc_take' rfl (by rfl) (by intro w hSw; (try dsimp only at hSw); obtain ⟨⟨e0, e1, e2, e3, e4, e5, e6, e7⟩, -⟩ := eight hSw.2.1; obtain ⟨⟨i0, i1, i2, i3, i4, i5, i6, i7⟩, -⟩ := eight hSw.2.2; clear hSw; go_simp; (try (first | with_reducible rfl | rfl))) ?_; (try simp only [Act.put, List.setIfInBounds_toArray, List.set_cons_zero, List.set_cons_succ])
  refine sc_take' rfl (by rfl) (by intro w hSw; (try dsimp only at hSw); obtain ⟨⟨e0, e1, e2, e3, e4, e5, e6, e7⟩, -⟩ := eight hSw.2.1; obtain ⟨⟨i0, i1, i2, i3, i4, i5, i6, i7⟩, -⟩ := eight hSw.2.2; clear hSw; go_simp; (try (first | with_reducible rfl | rfl))) ?_; (try simp only [Act.put, List.setIfInBounds_toArray, List.set_cons_zero, List.set_cons_succ])
  refine sc_take' rfl (by rfl) (by intro w hSw; (try dsimp only at hSw); obtain ⟨⟨e0, e1, e2, e3, e4, e5, e6, e7⟩, -⟩ := eight hSw.2.1; obtain ⟨⟨i0, i1, i2, i3, i4, i5, i6, i7⟩, -⟩ := eight hSw.2.2; clear hSw; go_simp; (try (first | with_reducible rfl | rfl))) ?_; (try simp only [Act.put, List.setIfInBounds_toArray, List.set_cons_zero, List.set_cons_succ])
  refine sc_call' rfl (fun K hK => ?_); go_simp; (refine (HSS.out _ hHeld.1).mono ?_; rintro e w9 ⟨rfl, hb⟩); go_wp2_with fail; refine hK.out _ _ ((by first | exact hHeld | exact ⟨hHeld.1.call hb, kept16 hHeld.2.1 hb, kept16 hHeld.2.2 hb⟩)) (fun hHeld2 => ?_); clear hHeld hK K; have hHeld := hHeld2; clear hHeld2
  refine sc_take' rfl (by rfl) (by intro w hSw; (try dsimp only at hSw); obtain ⟨⟨e0, e1, e2, e3, e4, e5, e6, e7⟩, -⟩ := eight hSw.2.1; obtain ⟨⟨i0, i1, i2, i3, i4, i5, i6, i7⟩, -⟩ := eight hSw.2.2; clear hSw; go_simp; (try (first | with_reducible rfl | rfl))) ?_; (try simp only [Act.put, List.setIfInBounds_toArray, List.set_cons_zero, List.set_cons_succ])
  refine sc_take' rfl (by rfl) (by intro w hSw; (try dsimp only at hSw); obtain ⟨⟨e0, e1, e2, e3, e4, e5, e6, e7⟩, -⟩ := eight hSw.2.1; obtain ⟨⟨i0, i1, i2, i3, i4, i5, i6, i7⟩, -⟩ := eight hSw.2.2; clear hSw; go_simp; (try (first | with_reducible rfl | rfl))) ?_; (try simp only [Act.put, List.setIfInBounds_toArray, List.set_cons_zero, List.set_cons_succ])
  refine sc_nil (NoPanic.normal ?_)
  have HB4 := Lib.hid hHeld.1
  have HX4 := Lib.hid hHeld.2.1
  clear hHeld
  obtain ⟨⟨e0, e1, e2, e3, e4, e5, e6, e7⟩, -⟩ := eight HX4.out
  go_wp2_with fail
  refine (HXR.out _ HB4.out).mono ?_
  rintro e w10 ⟨rfl, hb10⟩
  have HB5 := Lib.hid (HB4.out.call hb10)
  have HX5 := Lib.hid (kept16 HX4.out hb10)
  clear hb10 e0 e1 e2 e3 e4 e5 e6 e7
  have hw0 : IntKind.i64.wrap 0 = 0 := rfl
  go_wp2_with fail
  refine wp_region_noPanic (wp_region_sd (fun B => Bl W B ∧ B.heap[W.heap.size]? = some (.cells #[.int .i64 k, .int .i64 v1, .int .i64 v2, S v3, S t, S n, .int .i64 o, .slice a args.length cap] 30 (0, 0))) ((.take 0 (.take 1 (.one 2 (.take 3 (.take 4 (.take 5 (.take 7 (.one 6 (.one 8 (.one 9 (.take 10 (.take 11 (.take 12 (.take 13 (.one 14 (.take 15 (.take 16 .done)))))))))))))))))) (by kernel_rfl) (by kernel_rfl) (by kernel_rfl) (fun _ _ _ _ _ h => h) (⟨HB5.out.drew, HX5.out⟩) ?_) -- wp_region_sc 
  intro wd HWD hHeld
  refine sc_take' rfl (by rfl) (by intro w hSw; (try dsimp only at hSw); obtain ⟨⟨e0, e1, e2, e3, e4, e5, e6, e7⟩, -⟩ := eight hSw.2; clear hSw; go_simp; (try (first | with_reducible rfl | rfl))) ?_; (try simp only [Act.put, List.setIfInBounds_toArray, List.set_cons_zero, List.set_cons_succ])
  refine sc_take' rfl (by rfl) (by intro w hSw; (try dsimp only at hSw); obtain ⟨⟨e0, e1, e2, e3, e4, e5, e6, e7⟩, -⟩ := eight hSw.2; clear hSw; go_simp; (try (first | with_reducible rfl | rfl))) ?_; (try simp only [Act.put, List.setIfInBounds_toArray, List.set_cons_zero, List.set_cons_succ])
  refine sc_call' rfl (fun K hK => ?_); go_simp; (refine (HXT.out _ hHeld.1).mono ?_; rintro e w ⟨rfl, hb⟩); go_wp2_with fail; refine hK.out _ _ ((by first | exact hHeld | exact ⟨hHeld.1.call hb, kept16 hHeld.2 hb⟩)) (fun hHeld2 => ?_); clear hHeld hK K; have hHeld := hHeld2; clear hHeld2
  refine sc_take' rfl (by rfl) (by intro w hSw; (try dsimp only at hSw); obtain ⟨⟨e0, e1, e2, e3, e4, e5, e6, e7⟩, -⟩ := eight hSw.2; clear hSw; go_simp; (try (first | with_reducible rfl | rfl))) ?_; (try simp only [Act.put, List.setIfInBounds_toArray, List.set_cons_zero, List.set_cons_succ])
  refine sc_take' rfl (by rfl) (by intro w hSw; (try dsimp only at hSw); obtain ⟨⟨e0, e1, e2, e3, e4, e5, e6, e7⟩, -⟩ := eight hSw.2; clear hSw; go_simp; (try (first | with_reducible rfl | rfl))) ?_; (try simp only [Act.put, List.setIfInBounds_toArray, List.set_cons_zero, List.set_cons_succ])
  refine sc_take' rfl (by rfl) (by intro w hSw; (try dsimp only at hSw); obtain ⟨⟨e0, e1, e2, e3, e4, e5, e6, e7⟩, -⟩ := eight hSw.2; clear hSw; go_simp; (try (first | with_reducible rfl | rfl))) ?_; (try simp only [Act.put, List.setIfInBounds_toArray, List.set_cons_zero, List.set_cons_succ])
  refine sc_take' rfl (by rfl) (by intro w hSw; (try dsimp only at hSw); obtain ⟨⟨e0, e1, e2, e3, e4, e5, e6, e7⟩, -⟩ := eight hSw.2; clear hSw; go_simp; (try (first | with_reducible rfl | rfl))) ?_; (try simp only [Act.put, List.setIfInBounds_toArray, List.set_cons_zero, List.set_cons_succ])
  refine sc_call' rfl (fun K hK => ?_); go_simp; ((with_reducible refine (num16_any _ _).mono ?_); rintro e w8 ⟨rfl, rfl⟩); go_wp2_with fail; refine hK.out _ _ ((by first | exact hHeld | exact ⟨hHeld.1.call hb, kept16 hHeld.2 hb⟩)) (fun hHeld2 => ?_); clear hHeld hK K; have hHeld := hHeld2; clear hHeld2
  refine sc_call' rfl (fun K hK => ?_); go_simp; (refine (HCK.out _ hHeld.1).mono ?_; rintro e w ⟨rfl, hb⟩); go_wp2_with fail; refine hK.out _ _ ((by first | exact hHeld | exact ⟨hHeld.1.call hb, kept16 hHeld.2 hb⟩)) (fun hHeld2 => ?_); clear hHeld hK K; have hHeld := hHeld2; clear hHeld2
  refine sc_call' rfl (fun K hK => ?_); go_simp; ((with_reducible refine (num16_any _ _).mono ?_); rintro e w8 ⟨rfl, rfl⟩); go_wp2_with fail; refine hK.out _ _ ((by first | exact hHeld | exact ⟨hHeld.1.call hb, kept16 hHeld.2 hb⟩)) (fun hHeld2 => ?_); clear hHeld hK K; have hHeld := hHeld2; clear hHeld2
  refine sc_take' rfl (by rfl) (by intro w hSw; (try dsimp only at hSw); obtain ⟨⟨e0, e1, e2, e3, e4, e5, e6, e7⟩, -⟩ := eight hSw.2; clear hSw; go_simp; (try (first | with_reducible rfl | rfl))) ?_; (try simp only [Act.put, List.setIfInBounds_toArray, List.set_cons_zero, List.set_cons_succ])
  refine sc_take' rfl (by rfl) (by intro w hSw; (try dsimp only at hSw); obtain ⟨⟨e0, e1, e2, e3, e4, e5, e6, e7⟩, -⟩ := eight hSw.2; clear hSw; go_simp; (try (first | with_reducible rfl | rfl))) ?_; (try simp only [Act.put, List.setIfInBounds_toArray, List.set_cons_zero, List.set_cons_succ])
  refine sc_take' rfl (by rfl) (by intro w hSw; (try dsimp only at hSw); obtain ⟨⟨e0, e1, e2, e3, e4, e5, e6, e7⟩, -⟩ := eight hSw.2; clear hSw; go_simp; (try (first | with_reducible rfl | rfl))) ?_; (try simp only [Act.put, List.setIfInBounds_toArray, List.set_cons_zero, List.set_cons_succ])
  refine sc_take' rfl (by rfl) (by intro w hSw; (try dsimp only at hSw); obtain ⟨⟨e0, e1, e2, e3, e4, e5, e6, e7⟩, -⟩ := eight hSw.2; clear hSw; go_simp; (try (first | with_reducible rfl | rfl))) ?_; (try simp only [Act.put, List.setIfInBounds_toArray, List.set_cons_zero, List.set_cons_succ])
  refine sc_call' rfl (fun K hK => ?_); go_simp; ((with_reducible refine (works16_any _ (HG.out.bl hHeld.1)).mono ?_); rintro e w ⟨rfl, hb⟩); go_wp2_with fail; refine hK.out _ _ ((by first | exact hHeld | exact ⟨hHeld.1.call hb, kept16 hHeld.2 hb⟩)) (fun hHeld2 => ?_); clear hHeld hK K; have hHeld := hHeld2; clear hHeld2
  refine sc_take' rfl (by rfl) (by intro w hSw; (try dsimp only at hSw); obtain ⟨⟨e0, e1, e2, e3, e4, e5, e6, e7⟩, -⟩ := eight hSw.2; clear hSw; go_simp; (try (first | with_reducible rfl | rfl))) ?_; (try simp only [Act.put, List.setIfInBounds_toArray, List.set_cons_zero, List.set_cons_succ])
  refine sc_take' rfl (by rfl) (by intro w hSw; (try dsimp only at hSw); obtain ⟨⟨e0, e1, e2, e3, e4, e5, e6, e7⟩, -⟩ := eight hSw.2; clear hSw; go_simp; (try (first | with_reducible rfl | rfl))) ?_; (try simp only [Act.put, List.setIfInBounds_toArray, List.set_cons_zero, List.set_cons_succ])
  refine sc_nil (NoPanic.normal ?_)
  go_wp2
  go_ret
  exact ⟨rfl, hHeld.1⟩
--END3
theorem etexts_all (x y : Ex) (W : World) (v u : Value) (hv : ReadsE W x v) (hu : ReadsE W y u) (hF : Fits x) (hK : Kinds x) (hG : Glob W) : Calls Tryz.prog 6 #[v, u] W (Yes W) := by
  have hva : ∀ w, Bl W w → Calls Tryz.prog 19 #[v, .int .i64 60] w fun e w' => e = .returned (.bool (decide (60 < pV 60 x))) ∧ Bl w w' := fun w hb => vast16_any x 60 60 w v rfl (by omega) (hv.bl hb)
  have hvb : ∀ w, Bl W w → Calls Tryz.prog 19 #[u, .int .i64 60] w fun e w' => e = .returned (.bool (decide (60 < pV 60 y))) ∧ Bl w w' := fun w hb => vast16_any y 60 60 w u rfl (by omega) (hu.bl hb)
  by_cases hb : 60 < pV 60 x ∨ 60 < pV 60 y
  · exact etexts_off x y W v u hv hu hG _ _ (by simpa using hb) hva hvb
  · rw [decide_eq_false (fun h => hb (.inl h))] at hva
    rw [decide_eq_false (fun h => hb (.inr h))] at hvb
    obtain ⟨hp, hS⟩ := pV_parts 60 x (by omega)
    have hL := hS.lens
    have hlen : checkB x = true → (textE x).length ≤ 100000000 := fun hC => by
      have := text_sum x hS hF hC
      omega
    have hsm := Lib.hid fun w (hb : Bl W w) => eSame_any _ x y (Nat.le_refl _) (by omega) w v u (hv.bl hb) (hu.bl hb)
    have hxs := Lib.hid fun w (hb : Bl W w) => xSame_any _ x y (Nat.le_refl _) (by omega) w v u (hv.bl hb) (hu.bl hb)
    have hsu := Lib.hid fun w (hb : Bl W w) => eSums_any _ x (Nat.le_refl _) (by omega) w v (hv.bl hb)
    have hxu := Lib.hid fun w (hb : Bl W w) => xSums_any _ x (Nat.le_refl _) (by omega) w v (hv.bl hb)
    have hss : Hid (∀ w, Bl W w → Calls Tryz.prog 22 #[v, v] w fun e w' => e = .returned (.bool true) ∧ Bl w w') := fun w hb => by
      have h := eSame_any _ x x (Nat.le_refl _) (by omega) w v v (hv.bl hb) (hv.bl hb)
      rw [same_self] at h
      exact h
    have hxr := fun w (hb : Bl W w) => xRight_any _ x (Nat.le_refl _) (by omega) hK hL w v (hv.bl hb)
    have hck := fun w (hb : Bl W w) => echeck_any _ x (Nat.le_refl _) (by omega) hL w v (hv.bl hb) (hG.bl hb)
    have htx := fun w (hb : Bl W w) => eText_any (x := x) (by omega) hF hL hlen w v (hv.bl hb) (hG.bl hb)
    cases hC : checkB x
    · rw [hC] at hxr
      rw [show ckN x = 2 by unfold ckN; rw [hC]; rfl] at hck htx
      rw [show textN x = [] by unfold textN; rw [hC]; rfl] at htx
      exact etexts_no x y W v u hv hu hG _ _ hva hvb htx hsm hxs hsu hxu hss hxr hck
    · rw [hC] at hxr
      rw [show ckN x = 0 from if_pos hC] at hck htx
      rw [show textN x = textE x from if_pos hC] at htx
      exact etexts_yes x y W v u hv hu hG _ _ _ hva hvb htx hsm hxs hsu hxu hss hxr (fun w hb => xText_any _ x (Nat.le_refl _) (by omega) hC hF (hlen hC) w v (hv.bl hb)) hck
end Go.Proofs.YtepkfkfedmbmnaaGreatDoor
