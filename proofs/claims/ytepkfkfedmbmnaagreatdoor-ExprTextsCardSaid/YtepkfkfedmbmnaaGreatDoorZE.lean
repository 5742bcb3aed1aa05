/- The reference of layer 16: Right of a column; Right. -/
import Derived.Test.YtepkfkfedmbmnaaGreatDoorZC
import Derived.Test.YtepkfkfedmbmnaaGreatDoorMK0
import Derived.Test.YtepkfkfedmbmnaaGreatDoorMZ
namespace Go.Proofs.YtepkfkfedmbmnaaGreatDoor
open Go.RowKit
set_option maxRecDepth 100000

--BEGIN1
set_option maxHeartbeats 8000000 in
theorem xright_2 {v1 v2 o : Int} {v3 t n : List UInt8} {a : Option Addr} {cap : Nat} {R bn bt : Bool} {args : List Ex} {W : World}
    (HIn : Hid (∀ w, Calls Tryz.prog 46 #[S n] w fun e w' => e = .returned (.bool bn) ∧ Bl w w')) (HIt : Hid (∀ w, Calls Tryz.prog 46 #[S t] w fun e w' => e = .returned (.bool bt) ∧ Bl w w'))
    (HA : Hid (ArgsAt 25 checkB W a args)) (HN : Hid (¬ (bn = true ∧ (t = [] ∨ bt = true) ∧ args.length = 0 ∧ v1 = 0 ∧ v2 = 0 ∧ v3 = [] ∧ o = 0) → R = false)) (HY : Hid ((bn = true ∧ (t = [] ∨ bt = true) ∧ args.length = 0 ∧ v1 = 0 ∧ v2 = 0 ∧ v3 = [] ∧ o = 0) → R = (args.drop 0).all checkB)) :
    Calls Tryz.prog 25 #[EV 2 (v1, v2, v3) t n o (.slice a args.length cap)] W fun e w' => e = .returned (.bool R) ∧ Bl W w' := by
  have HX0 := Lib.hid (two_0 W (.cells #[.int .i64 2, .int .i64 v1, .int .i64 v2, S v3, S t, S n, .int .i64 o, .slice a args.length cap] 30) (.cells #[.int .i64 2, .int .i64 0, .int .i64 0, S [], S [], S [], .int .i64 0, .slice none 0 0] 30))
  have HU0 := Lib.hid (two_1 W (.cells #[.int .i64 2, .int .i64 v1, .int .i64 v2, S v3, S t, S n, .int .i64 o, .slice a args.length cap] 30) (.cells #[.int .i64 2, .int .i64 0, .int .i64 0, S [], S [], S [], .int .i64 0, .slice none 0 0] 30))
  have HB0 := Lib.hid (((Bl.refl W).alloc (.cells #[.int .i64 2, .int .i64 v1, .int .i64 v2, S v3, S t, S n, .int .i64 o, .slice a args.length cap] 30)).alloc (.cells #[.int .i64 2, .int .i64 0, .int .i64 0, S [], S [], S [], .int .i64 0, .slice none 0 0] 30))
  have ht : t = [] ∨ ((t == []) = false ∧ (t != []) = true) := by
    by_cases e : t = []
    · exact .inl e
    · exact .inr ⟨by simpa using e, by simpa using e⟩
  go_enter Tryz.func25, Tryz.ntmps25
  go_wp2_with fail
  refine wp_region_noPanic (wp_region_sd (fun B => B.heap[W.heap.size]? = some (.cells #[.int .i64 2, .int .i64 v1, .int .i64 v2, S v3, S t, S n, .int .i64 o, .slice a args.length cap] 30 (0, 0))) ((.take 0 (.take 1 (.take 2 (.take 3 (.take 4 (.one 5 (.take 6 (.one 7 .done))))))))) (by kernel_rfl) (by kernel_rfl) (by kernel_rfl) (fun _ _ _ _ _ h => h) (HX0.out) ?_) -- wp_region_sc 
  intro wd HWD hHeld
  refine sc_take' rfl (by rfl) (by intro w hSw; (try dsimp only at hSw); obtain ⟨⟨e0, e1, e2, e3, e4, e5, e6, e7⟩, -⟩ := eight hSw; go_simp; (try (first | with_reducible rfl | rfl))) ?_; (try simp only [Act.put, List.setIfInBounds_toArray, List.set_cons_zero, List.set_cons_succ])
  refine sc_take' rfl (by rfl) (by intro w hSw; (try dsimp only at hSw); obtain ⟨⟨e0, e1, e2, e3, e4, e5, e6, e7⟩, -⟩ := eight hSw; go_simp; (try (first | with_reducible rfl | rfl))) ?_; (try simp only [Act.put, List.setIfInBounds_toArray, List.set_cons_zero, List.set_cons_succ])
  refine sc_take' rfl (by rfl) (by intro w hSw; (try dsimp only at hSw); obtain ⟨⟨e0, e1, e2, e3, e4, e5, e6, e7⟩, -⟩ := eight hSw; go_simp; (try (first | with_reducible rfl | rfl))) ?_; (try simp only [Act.put, List.setIfInBounds_toArray, List.set_cons_zero, List.set_cons_succ])
  refine sc_take' rfl (by rfl) (by intro w hSw; (try dsimp only at hSw); obtain ⟨⟨e0, e1, e2, e3, e4, e5, e6, e7⟩, -⟩ := eight hSw; go_simp; (try (first | with_reducible rfl | rfl))) ?_; (try simp only [Act.put, List.setIfInBounds_toArray, List.set_cons_zero, List.set_cons_succ])
  refine sc_take' rfl (by rfl) (by intro w hSw; (try dsimp only at hSw); obtain ⟨⟨e0, e1, e2, e3, e4, e5, e6, e7⟩, -⟩ := eight hSw; go_simp; (try (first | with_reducible rfl | rfl))) ?_; (try simp only [Act.put, List.setIfInBounds_toArray, List.set_cons_zero, List.set_cons_succ])
  have HU1 := Lib.hid ((HWD.out.block _ (by simp)).trans HU0.out)
  have HBW := Lib.hid (HB0.out.call HWD.out)
  obtain ⟨⟨u0, u1, u2, u3, u4, u5, u6, u7⟩, g0, g1, g2, g3, g4, g5, g6, g7⟩ := eight HU1.out
  refine sc_call' rfl (fun K hK => ?_); go_simp; refine hK.out _ _ (((heap_set_other _ ⟨W.heap.size + 1, 4, none⟩ _ _ (by show W.heap.size ≠ W.heap.size + 1; omega)).trans hHeld)) (fun hHeld2 => ?_); clear hHeld hK K; have hHeld := hHeld2; clear hHeld2
  refine sc_take' rfl (by rfl) (by intro w hSw; (try dsimp only at hSw); obtain ⟨⟨e0, e1, e2, e3, e4, e5, e6, e7⟩, -⟩ := eight hSw; go_simp; (try (first | with_reducible rfl | rfl))) ?_; (try simp only [Act.put, List.setIfInBounds_toArray, List.set_cons_zero, List.set_cons_succ])
  clear u0 u1 u2 u3 u4 u5 u6 u7 g0 g1 g2 g3 g4 g5 g6 g7
  have HU2 : Hid ((wd.setCell ⟨W.heap.size + 1, 4, none⟩ (S t)).heap[W.heap.size + 1]? = some (.cells #[.int .i64 2, .int .i64 0, .int .i64 0, S [], S t, S [], .int .i64 0, .slice none 0 0] 30 (0, 0))) := set1_heap HU1.out 4 _
  obtain ⟨⟨u0, u1, u2, u3, u4, u5, u6, u7⟩, g0, g1, g2, g3, g4, g5, g6, g7⟩ := eight HU2.out
  refine sc_call' rfl (fun K hK => ?_); go_simp; refine hK.out _ _ (((heap_set_other _ ⟨W.heap.size + 1, 5, none⟩ _ _ (by show W.heap.size ≠ W.heap.size + 1; omega)).trans hHeld)) (fun hHeld2 => ?_); clear hHeld hK K; have hHeld := hHeld2; clear hHeld2
  refine sc_nil (NoPanic.normal ?_)
  clear u0 u1 u2 u3 u4 u5 u6 u7 g0 g1 g2 g3 g4 g5 g6 g7
  have HU3 : Hid (((wd.setCell ⟨W.heap.size + 1, 4, none⟩ (S t)).setCell ⟨W.heap.size + 1, 5, none⟩ (S n)).heap[W.heap.size + 1]? = some (.cells #[.int .i64 2, .int .i64 0, .int .i64 0, S [], S t, S n, .int .i64 0, .slice none 0 0] 30 (0, 0))) := set1_heap HU2.out 5 _
  have HB3 := Lib.hid ((HBW.out.set (p := ⟨W.heap.size + 1, 4, none⟩) (by show W.heap.size ≤ W.heap.size + 1; omega) (S t)).set (p := ⟨W.heap.size + 1, 5, none⟩) (by show W.heap.size ≤ W.heap.size + 1; omega) (S n))
  have HX3 := Lib.hid hHeld
  clear hHeld HU2 HU1 HBW
  generalize (wd.setCell ⟨W.heap.size + 1, 4, none⟩ (S t)).setCell ⟨W.heap.size + 1, 5, none⟩ (S n) = w9 at *
  obtain ⟨⟨e0, e1, e2, e3, e4, e5, e6, e7⟩, -⟩ := eight HX3.out
  go_wp2_with fail
  refine (HIn.out _).mono ?_
  rintro e w1 ⟨rfl, hb1⟩
  have HX1 := Lib.hid ((hb1.block W.heap.size (Array.getElem?_eq_some_iff.1 HX3.out).1).trans HX3.out)
  have HU1 := Lib.hid ((hb1.block (W.heap.size + 1) (Array.getElem?_eq_some_iff.1 HU3.out).1).trans HU3.out)
  have HB1 := Lib.hid (HB3.out.call hb1)
  clear hb1 e0 e1 e2 e3 e4 e5 e6 e7
  obtain ⟨⟨e0, e1, e2, e3, e4, e5, e6, e7⟩, -⟩ := eight HX1.out
  cases hbn : bn
  case false =>
    have HE := Lib.hid (HN.out fun h => by rw [h.1] at hbn; cases hbn)
    subst hbn
    go_wp2
    all_goals
      go_ret
      exact ⟨by rw [HE.out] <;> rfl, HB1.out⟩
  subst hbn
  rcases ht with rfl | ⟨ht1, ht2⟩
  case inl =>
    obtain ⟨⟨i0, i1, i2, i3, i4, i5, i6, i7⟩, -⟩ := eight HU1.out
    by_cases hm : (args.length : Int) = 0
    case neg =>
      have HE := Lib.hid (HN.out fun h => hm (by have := h.2.2.1; omega))
      have hb : ((args.length : Int) == 0) = false := by simpa using hm
      have hb' : ((args.length : Int) != 0) = true := by simpa using hm
      clear hm
      go_wp2
      all_goals
        go_ret
        exact ⟨by rw [HE.out] <;> rfl, HB1.out⟩
    have HM := Lib.hid (show args.length = 0 by omega)
    have hm1 : ((args.length : Int) == 0) = true := by simpa using hm
    have hm2 : ((args.length : Int) != 0) = false := by simpa using hm
    clear hm
    by_cases hv1 : v1 = 0
    case neg =>
      have HE := Lib.hid (HN.out fun h => hv1 h.2.2.2.1)
      have hb : (v1 == 0) = false := by simpa using hv1
      have hb' : (v1 != 0) = true := by simpa using hv1
      clear hv1
      go_wp2
      all_goals
        go_ret
        exact ⟨by rw [HE.out] <;> rfl, HB1.out⟩
    subst hv1
    by_cases hv2 : v2 = 0
    case neg =>
      have HE := Lib.hid (HN.out fun h => hv2 h.2.2.2.2.1)
      have hb : (v2 == 0) = false := by simpa using hv2
      have hb' : (v2 != 0) = true := by simpa using hv2
      clear hv2
      go_wp2
      all_goals
        go_ret
        exact ⟨by rw [HE.out] <;> rfl, HB1.out⟩
    subst hv2
    by_cases hv3 : v3 = []
    case neg =>
      have HE := Lib.hid (HN.out fun h => hv3 h.2.2.2.2.2.1)
      have hb : (v3 == []) = false := by simpa using hv3
      have hb' : (v3 != []) = true := by simpa using hv3
      clear hv3
      go_wp2
      all_goals
        go_ret
        exact ⟨by rw [HE.out] <;> rfl, HB1.out⟩
    subst hv3
    by_cases ho : o = 0
    case neg =>
      have HE := Lib.hid (HN.out fun h => ho h.2.2.2.2.2.2)
      have hb : (o == 0) = false := by simpa using ho
      have hb' : (o != 0) = true := by simpa using ho
      clear ho
      go_wp2
      all_goals
        go_ret
        exact ⟨by rw [HE.out] <;> rfl, HB1.out⟩
    subst ho
    have HE := Lib.hid (HY.out ⟨by first | rfl | trivial, by first | exact (.inl rfl) | simp, HM.out, by first | rfl | trivial, by first | rfl | trivial, by first | rfl | trivial, by first | rfl | trivial⟩)
    clear HN HY
    go_wp2_with fail
    clear e0 e1 e2 e3 e4 e5 e6 e7 i0 i1 i2 i3 i4 i5 i6 i7 hm1 hm2
    go_loopw [6] (fun i wr => ∃ j : Nat, j ≤ args.length ∧ i = .int .i64 (j : Int) ∧ Hid (R = (args.drop j).all checkB) ∧ Bl W wr ∧ Hid (wr.heap[W.heap.size]? = some (.cells #[.int .i64 2, .int .i64 0, .int .i64 0, S [], S [], S n, .int .i64 0, .slice a args.length cap] 30 (0, 0)))) (fun i _ => args.length - (intOf i).toNat)
    case atStart => exact ⟨0, Nat.zero_le _, rfl, HE.out, HB1.out, HX1.out⟩
    case round =>
      obtain ⟨j, hj, rfl, HD, hB, HX⟩ := hrel
      obtain ⟨⟨-, -, -, -, -, -, -, c7⟩, -⟩ := eight HX.out
      have hfew := HA.out.few
      by_cases hlt : j < args.length
      · have hltI : (j : Int) < (args.length : Int) := by omega
        obtain ⟨b, off, s, rfl, h8, hr⟩ := HA.out.at8 j hlt
        have HB := Lib.hid hB
        have HY := Lib.hid (HA.out.ih _ (List.getElem_mem hlt))
        have HDj := Lib.hid (alls_drop hlt)
        have HR := Lib.hid (hr.bl hB)
        obtain ⟨e0, e1, e2, e3, e4, e5, e6, e7⟩ := h8.bl hB
        clear h8 hr hB
        generalize hy : args[j] = y at *
        clear hy
        obtain ⟨k', ⟨v1', v2', v3'⟩, t', nm', o', args'⟩ := y
        simp only [Ex.k, Ex.v, Ex.t, Ex.n, Ex.o] at e0 e1 e2 e3 e4 e5 e6
        go_wp2_with fail
        have hRE : ReadsE wr (.mk k' (v1', v2', v3') t' nm' o' args') (EV k' (v1', v2', v3') t' nm' o' s) := ⟨s, rfl, HR.out⟩
        (with_reducible refine (HY.out _ _ hRE).mono ?_)
        rintro e w5 ⟨rfl, hb5⟩
        have HB5 := Lib.hid (HB.out.call hb5)
        have HX5 := Lib.hid ((hb5.block _ (Array.getElem?_eq_some_iff.1 HX.out).1).trans HX.out)
        clear hb5 e0 e1 e2 e3 e4 e5 e6 e7 c7 hRE
        cases hs : checkB (.mk k' (v1', v2', v3') t' nm' o' args')
        · have HF := Lib.hid (show R = false from by rw [HD.out, HDj.out, hs]; rfl)
          clear hs
          go_wp2
          go_ret
          exact ⟨by rw [HF.out] <;> rfl, HB5.out⟩
        · have HF := Lib.hid (show R = (args.drop (j + 1)).all checkB from by rw [HD.out, HDj.out, hs]; rfl)
          clear hs
          go_wp2
          go_roundw
          case rel => exact ⟨j + 1, by omega, by go_num, HF.out, HB5.out, HX5.out⟩
          case measure => simp [intOf]; omega
      · obtain rfl : j = args.length := by omega
        have HF : Hid (R = true) := by show R = true; rw [HD.out, List.drop_length]; rfl
        have HB := Lib.hid hB
        clear hB
        go_wp2
        go_ret
        exact ⟨by rw [HF.out] <;> rfl, HB.out⟩
  case inr =>
    go_wp2_with fail
    refine (HIt.out _).mono ?_
    rintro e w2 ⟨rfl, hb2⟩
    have HX2 := Lib.hid ((hb2.block W.heap.size (Array.getElem?_eq_some_iff.1 HX1.out).1).trans HX1.out)
    have HU2 := Lib.hid ((hb2.block (W.heap.size + 1) (Array.getElem?_eq_some_iff.1 HU1.out).1).trans HU1.out)
    have HB2 := Lib.hid (HB1.out.call hb2)
    have HT := Lib.hid (show t ≠ [] by simpa using ht2)
    clear hb2 e0 e1 e2 e3 e4 e5 e6 e7
    obtain ⟨⟨e0, e1, e2, e3, e4, e5, e6, e7⟩, -⟩ := eight HX2.out
    cases hbt : bt
    case false =>
      have HE := Lib.hid (HN.out fun h => by rcases h.2.1 with h | h
                                             · exact HT.out h
                                             · rw [h] at hbt; cases hbt)
      subst hbt
      go_wp2
      all_goals
        go_ret
        exact ⟨by rw [HE.out] <;> rfl, HB2.out⟩
    subst hbt
    obtain ⟨⟨i0, i1, i2, i3, i4, i5, i6, i7⟩, -⟩ := eight HU2.out
    by_cases hm : (args.length : Int) = 0
    case neg =>
      have HE := Lib.hid (HN.out fun h => hm (by have := h.2.2.1; omega))
      have hb : ((args.length : Int) == 0) = false := by simpa using hm
      have hb' : ((args.length : Int) != 0) = true := by simpa using hm
      clear hm
      go_wp2
      all_goals
        go_ret
        exact ⟨by rw [HE.out] <;> rfl, HB2.out⟩
    have HM := Lib.hid (show args.length = 0 by omega)
    have hm1 : ((args.length : Int) == 0) = true := by simpa using hm
    have hm2 : ((args.length : Int) != 0) = false := by simpa using hm
    clear hm
    by_cases hv1 : v1 = 0
    case neg =>
      have HE := Lib.hid (HN.out fun h => hv1 h.2.2.2.1)
      have hb : (v1 == 0) = false := by simpa using hv1
      have hb' : (v1 != 0) = true := by simpa using hv1
      clear hv1
      go_wp2
      all_goals
        go_ret
        exact ⟨by rw [HE.out] <;> rfl, HB2.out⟩
    subst hv1
    by_cases hv2 : v2 = 0
    case neg =>
      have HE := Lib.hid (HN.out fun h => hv2 h.2.2.2.2.1)
      have hb : (v2 == 0) = false := by simpa using hv2
      have hb' : (v2 != 0) = true := by simpa using hv2
      clear hv2
      go_wp2
      all_goals
        go_ret
        exact ⟨by rw [HE.out] <;> rfl, HB2.out⟩
    subst hv2
    by_cases hv3 : v3 = []
    case neg =>
      have HE := Lib.hid (HN.out fun h => hv3 h.2.2.2.2.2.1)
      have hb : (v3 == []) = false := by simpa using hv3
      have hb' : (v3 != []) = true := by simpa using hv3
      clear hv3
      go_wp2
      all_goals
        go_ret
        exact ⟨by rw [HE.out] <;> rfl, HB2.out⟩
    subst hv3
    by_cases ho : o = 0
    case neg =>
      have HE := Lib.hid (HN.out fun h => ho h.2.2.2.2.2.2)
      have hb : (o == 0) = false := by simpa using ho
      have hb' : (o != 0) = true := by simpa using ho
      clear ho
      go_wp2
      all_goals
        go_ret
        exact ⟨by rw [HE.out] <;> rfl, HB2.out⟩
    subst ho
    have HE := Lib.hid (HY.out ⟨by first | rfl | trivial, by first | exact (.inr rfl) | simp, HM.out, by first | rfl | trivial, by first | rfl | trivial, by first | rfl | trivial, by first | rfl | trivial⟩)
    clear HN HY
    go_wp2_with fail
    clear e0 e1 e2 e3 e4 e5 e6 e7 i0 i1 i2 i3 i4 i5 i6 i7 hm1 hm2
    go_loopw [6] (fun i wr => ∃ j : Nat, j ≤ args.length ∧ i = .int .i64 (j : Int) ∧ Hid (R = (args.drop j).all checkB) ∧ Bl W wr ∧ Hid (wr.heap[W.heap.size]? = some (.cells #[.int .i64 2, .int .i64 0, .int .i64 0, S [], S t, S n, .int .i64 0, .slice a args.length cap] 30 (0, 0)))) (fun i _ => args.length - (intOf i).toNat)
    case atStart => exact ⟨0, Nat.zero_le _, rfl, HE.out, HB2.out, HX2.out⟩
    case round =>
      obtain ⟨j, hj, rfl, HD, hB, HX⟩ := hrel
      obtain ⟨⟨-, -, -, -, -, -, -, c7⟩, -⟩ := eight HX.out
      have hfew := HA.out.few
      by_cases hlt : j < args.length
      · have hltI : (j : Int) < (args.length : Int) := by omega
        obtain ⟨b, off, s, rfl, h8, hr⟩ := HA.out.at8 j hlt
        have HB := Lib.hid hB
        have HY := Lib.hid (HA.out.ih _ (List.getElem_mem hlt))
        have HDj := Lib.hid (alls_drop hlt)
        have HR := Lib.hid (hr.bl hB)
        obtain ⟨e0, e1, e2, e3, e4, e5, e6, e7⟩ := h8.bl hB
        clear h8 hr hB
        generalize hy : args[j] = y at *
        clear hy
        obtain ⟨k', ⟨v1', v2', v3'⟩, t', nm', o', args'⟩ := y
        simp only [Ex.k, Ex.v, Ex.t, Ex.n, Ex.o] at e0 e1 e2 e3 e4 e5 e6
        go_wp2_with fail
        have hRE : ReadsE wr (.mk k' (v1', v2', v3') t' nm' o' args') (EV k' (v1', v2', v3') t' nm' o' s) := ⟨s, rfl, HR.out⟩
        (with_reducible refine (HY.out _ _ hRE).mono ?_)
        rintro e w5 ⟨rfl, hb5⟩
        have HB5 := Lib.hid (HB.out.call hb5)
        have HX5 := Lib.hid ((hb5.block _ (Array.getElem?_eq_some_iff.1 HX.out).1).trans HX.out)
        clear hb5 e0 e1 e2 e3 e4 e5 e6 e7 c7 hRE
        cases hs : checkB (.mk k' (v1', v2', v3') t' nm' o' args')
        · have HF := Lib.hid (show R = false from by rw [HD.out, HDj.out, hs]; rfl)
          clear hs
          go_wp2
          go_ret
          exact ⟨by rw [HF.out] <;> rfl, HB5.out⟩
        · have HF := Lib.hid (show R = (args.drop (j + 1)).all checkB from by rw [HD.out, HDj.out, hs]; rfl)
          clear hs
          go_wp2
          go_roundw
          case rel => exact ⟨j + 1, by omega, by go_num, HF.out, HB5.out, HX5.out⟩
          case measure => simp [intOf]; omega
      · obtain rfl : j = args.length := by omega
        have HF : Hid (R = true) := by show R = true; rw [HD.out, List.drop_length]; rfl
        have HB := Lib.hid hB
        clear hB
        go_wp2
        go_ret
        exact ⟨by rw [HF.out] <;> rfl, HB.out⟩
--END1
theorem xRight_any : ∀ (N : Nat) (x : Ex), partsE x ≤ N → N ≤ 1000000 → Kinds x → Lens x → ∀ (W : World) (v : Value), ReadsE W x v → Calls Tryz.prog 25 #[v] W fun e w' => e = .returned (.bool (checkB x)) ∧ Bl W w'
  | 0, x, h, _, _, _, _, _, _ => by have := parts_pos x; omega
  | N + 1, x, hx, hN, hK, hL, W, v, hv => by
    obtain ⟨sv, rfl, hR⟩ := hv
    obtain ⟨a, cap, rfl, hc⟩ := hR.shape
    have HA : ArgsAt 25 checkB W a x.args := ⟨by have := parts_len x; omega, hc, fun y hy W' v hv => xRight_any N y (by have := parts_arg hy; omega) (by omega) (by cases hK with | mk _ _ _ _ _ _ _ ha => exact ha y hy) (by cases hL with | mk _ _ _ _ _ _ _ _ ha => exact ha y hy) W' v hv⟩
    obtain ⟨k, ⟨v1, v2, v3⟩, t, n, o, args⟩ := x
    replace HA : ArgsAt 25 checkB W a args := HA
    have hI : I64 v1 := by cases hK with | mk _ _ _ _ _ _ h _ => exact h
    have hln : t.length ≤ 9223372036854775807 ∧ n.length ≤ 9223372036854775807 := by cases hL with | mk _ _ _ _ _ _ h1 h2 _ => exact ⟨h1, h2⟩
    show Calls Tryz.prog 25 #[EV k (v1, v2, v3) t n o (.slice a args.length cap)] W fun e w' => e = .returned (.bool (checkB (.mk k (v1, v2, v3) t n o args))) ∧ Bl W w'
    rw [check_mk]
    clear hx hK hL hR hc
    have he : args.isEmpty = decide (args.length = 0) := by cases args <;> simp
    by_cases h1 : k = 1
    · subst h1
      refine xright_1 (fun w => rCheck_any v1 v2 v3 hI.1 hI.2 w) HA (fun h => ?_) (fun h => ?_)
      · rw [Bool.and_eq_false_iff]
        refine .inl ?_
        cases hr : rightF 1 (v1, v2, v3) t n o args
        · rfl
        · exfalso
          apply h
          simp only [rightF, if_pos, Bool.and_eq_true, Bool.or_eq_true, beq_iff_eq, bne_iff_ne, decide_eq_true_eq, he] at hr
          obtain ⟨⟨⟨⟨⟨p1, p2⟩, p3⟩, p4⟩, p5⟩, p6⟩ := hr
          exact ⟨p5, fun q => by rcases p6 with p6 | p6; exact p6 q.1; omega, p4, p1, p2, p3⟩
      · obtain ⟨p5, p6, p4, rfl, rfl, rfl⟩ := h
        have : rightF 1 (v1, v2, v3) [] [] 0 args = true := by
          simp only [rightF, if_pos, he, p4, p5]
          simp
          omega
        rw [this]
        rfl
    by_cases h2 : k = 2
    · subst h2
      refine xright_2 (bn := nameB n) (bt := nameB t) (fun w => xIsName_any n hln.2 w) (fun w => xIsName_any t hln.1 w) HA (fun h => ?_) (fun h => ?_)
      · rw [Bool.and_eq_false_iff]
        refine .inl ?_
        cases hr : rightF 2 (v1, v2, v3) t n o args
        · rfl
        · exfalso
          apply h
          simp [rightF, he] at hr
          obtain ⟨⟨⟨⟨⟨p1, p1', p1''⟩, p2⟩, p3⟩, p4⟩, p5⟩ := hr
          exact ⟨p4, p5, by rw [p3]; rfl, p1, p1', p1'', p2⟩
      · obtain ⟨p4, p5, p3, rfl, rfl, rfl, rfl⟩ := h
        have : rightF 2 (0, 0, []) t n 0 args = true := by
          simp only [rightF, he, p3, p4]
          rcases p5 with rfl | p5
          · simp
          · simp [p5]
        rw [this]
        rfl
    by_cases h3 : k = 3
    · subst h3
      have hon : opName o ≠ [] ↔ (1 ≤ o ∧ o ≤ 20) := by
        constructor
        · intro h
          by_cases ho : 1 ≤ o ∧ o ≤ 20
          · exact ho
          · exact absurd (op_none ho) h
        · intro h
          rcases twenty h with rfl | rfl | rfl | rfl | rfl | rfl | rfl | rfl | rfl | rfl | rfl | rfl | rfl | rfl | rfl | rfl | rfl | rfl | rfl | rfl <;> decide
      refine xright_3 (fun w => yInfo_any o w) HA (fun h => ?_) (fun h => ?_)
      · rw [Bool.and_eq_false_iff]
        refine .inl ?_
        cases hr : rightF 3 (v1, v2, v3) t n o args
        · rfl
        · exfalso
          apply h
          simp [rightF] at hr
          obtain ⟨⟨⟨⟨⟨p1, p1', p1''⟩, p2⟩, p3⟩, p4⟩, p5⟩ := hr
          exact ⟨hon.2 p4, p5, p1, p1', p1'', p2, p3⟩
      · obtain ⟨p4, p5, rfl, rfl, rfl, rfl, rfl⟩ := h
        have : rightF 3 (0, 0, []) [] [] o args = true := by
          have := hon.1 p4
          simp [rightF, p5, this]
        rw [this]
        rfl
    by_cases h4 : k = 4
    · subst h4
      refine xright_4 HA (fun h => ?_) (fun h => ?_)
      · rw [Bool.and_eq_false_iff]
        refine .inl ?_
        cases hr : rightF 4 (v1, v2, v3) t n o args
        · rfl
        · exfalso
          apply h
          simp [rightF] at hr
          obtain ⟨⟨⟨⟨⟨p1, p1', p1''⟩, p2⟩, p3⟩, p4⟩, p5⟩ := hr
          exact ⟨by simpa using p5, p3, p1, p1', p1'', p2, p4⟩
      · obtain ⟨p5, rfl, rfl, rfl, rfl, rfl, rfl⟩ := h
        have : rightF 4 (0, 0, []) [] [] 0 args = true := by
          simp [rightF]
          simpa using p5
        rw [this]
        rfl
    by_cases h5 : k = 5
    · subst h5
      by_cases hc : n = sCount
      · subst hc
        refine xright_5c HA (fun h => ?_) (fun h => ?_)
        · rw [Bool.and_eq_false_iff]
          refine .inl ?_
          cases hr : rightF 5 (v1, v2, v3) t sCount o args
          · rfl
          · exfalso
            apply h
            simp [rightF, sumNames, he] at hr
            obtain ⟨⟨⟨⟨p1, p1', p1''⟩, p2⟩, p3⟩, p4⟩ := hr
            exact ⟨by rcases p4 with p4 | p4 <;> first | omega | (rw [p4]; simp), p1, p1', p1'', p2, p3⟩
        · obtain ⟨p5, rfl, rfl, rfl, rfl, rfl⟩ := h
          have : rightF 5 (0, 0, []) [] sCount 0 args = true := by
            have hl : args.length = 1 ∨ args.length = 0 := by omega
            simp only [rightF, he]
            rcases hl with hl | hl <;> simp [hl, sumNames]
          rw [this]
          rfl
      by_cases hs : n = sSum ∨ n = sMin ∨ n = sMax
      · refine xright_5s hs HA (fun h => ?_) (fun h => ?_)
        · rw [Bool.and_eq_false_iff]
          refine .inl ?_
          cases hr : rightF 5 (v1, v2, v3) t n o args
          · rfl
          · exfalso
            apply h
            simp [rightF, hc] at hr
            obtain ⟨⟨⟨⟨⟨p1, p1', p1''⟩, p2⟩, p3⟩, _⟩, p4⟩ := hr
            exact ⟨p4, p1, p1', p1'', p2, p3⟩
        · obtain ⟨p5, rfl, rfl, rfl, rfl, rfl⟩ := h
          have : rightF 5 (0, 0, []) [] n 0 args = true := by
            have hm : sumNames.contains n = true := by rcases hs with rfl | rfl | rfl <;> decide
            simp only [rightF, hm, p5]
            simp
          rw [this]
          rfl
      · have hf : rightF 5 (v1, v2, v3) t n o args = false := by
          have hm : sumNames.contains n = false := by
            cases hh : sumNames.contains n
            · rfl
            · exfalso
              simp [sumNames] at hh
              rcases hh with h | h | h | h
              · exact hc h
              · exact hs (.inl h)
              · exact hs (.inr (.inl h))
              · exact hs (.inr (.inr h))
          simp only [rightF, hm]
          simp
        rw [hf]
        exact xright_5n hc (fun h => hs (.inl h)) (fun h => hs (.inr (.inl h))) (fun h => hs (.inr (.inr h)))
    · have hf : rightF k (v1, v2, v3) t n o args = false := by
        unfold rightF
        rw [if_neg h1, if_neg h2, if_neg h3, if_neg h4, if_neg h5]
      rw [hf]
      exact xright_0 h1 h2 h3 h4 h5
end Go.Proofs.YtepkfkfedmbmnaaGreatDoor
