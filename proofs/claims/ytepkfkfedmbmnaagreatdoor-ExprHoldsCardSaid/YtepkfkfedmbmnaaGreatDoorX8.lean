/- The reference's alone. -/
import Derived.Test.YtepkfkfedmbmnaaGreatDoorX7
import Derived.Test.YtepkfkfedmbmnaaGreatDoorMS
namespace Go.Proofs.YtepkfkfedmbmnaaGreatDoor
open Go.RowKit
set_option maxRecDepth 100000

abbrev constL : List (List UInt8 × Int) := [(sFalse, 0), (sTrue, 1), (sNull, 2)]
/-- The reference reads a function's call. -/
def CalledR (f : Nat) : Prop := ∀ (W : World) (g cap : Nat) (ts : List Tok) (nm : List UInt8) (k d : Nat), Row W g ts → TokOK ts → ts.length ≤ 100000 → k < ts.length → d ≤ 60 → calledR ts (runR ts f) nm k d ≠ .out →
  Calls Tryz.prog 95 #[RS g ts.length cap k, S nm, .int .i64 (d : Int)] W (RPost g cap ts W (calledR ts (runR ts f) nm k d))
theorem const_drop (ts : List Tok) (k : Nat) (p : List UInt8 × Int) (r : List (List UInt8 × Int)) : constR ts k (p :: r) = match takeK ts k [p.1] with
    | some k' => some (k', p.2)
    | none => constR ts k r := by cases p; rfl

--BEGIN1
set_option maxHeartbeats 8000000 in
theorem xalone_any {f : Nat} (IH : AllR f) (IC : CalledR f) : AloneR f := by
  intro W g cap ts k d h hT hfew hk hd hne
  have H := Lib.hid h
  have HI := Lib.hid IH
  have HC := Lib.hid IC
  have HK := Lib.hid hk
  have HT := Lib.hid hT
  have hd1 : (d : Int) ≤ 60 := by omega
  obtain ⟨x, hx⟩ : ∃ x, ts[k]? = some x := ⟨_, List.getElem?_eq_getElem hk⟩
  obtain ⟨R, HR0⟩ : ∃ R, Hid (R = aloneR ts (runR ts f) k d) := ⟨_, rfl⟩
  rw [← HR0.out] at hne ⊢
  have HNE := Lib.hid hne
  have hR := HR0.out
  unfold aloneR at hR
  rw [hx] at hR
  simp only at hR
  have HX := Lib.hid hx
  have HF0 := Lib.hid (FrR.start W g ts.length cap k)
  clear h IH IC hk hT hne hx HR0
  obtain ⟨tk, tp, tt, ta, tb, tc⟩ := x
  simp only at hR
  by_cases hk2 : tk = 2
  · subst hk2
    rw [if_pos rfl] at hR
    have HKK := Lib.hid (nextK_lt HK.out)
    have hSay := Lib.hid (show Says R (nextK ts.length k) (valE (ta, tb, tc)) 0 from .inl ⟨rfl, hR⟩)
    clear hR
    go_enter Tryz.func66, Tryz.ntmps66
    go_wp2_with fail
    (with_reducible refine (rPeek_any (H.out.bl HF0.out.bl) hfew HX.out).mono ?_)
    rintro e w1 ⟨rfl, hb1⟩
    have hbq := hb1.alloc (.cells #[.int .i64 2, .int .i64 (tp : Int), S tt, .int .i64 ta, .int .i64 tb, S tc] 53)
    have HFq := Lib.hid (HF0.out.next hbq)
    have HAXq := Lib.hid (And.intro HFq.out.s (heap_new w1 (.cells #[.int .i64 2, .int .i64 (tp : Int), S tt, .int .i64 ta, .int .i64 tb, S tc] 53)))
    have hz1 := hb1.size
    simp only [World.size_alloc] at hz1
    clear hb1 hbq
    go_wp2_with fail
    -- a region that answers with an expression without arguments, behind one call (pull: its contract); HAXq, HFq
    refine wp_region_noPanic (wp_region_sd (fun B => B.heap[W.heap.size]? = some (.cells #[.slice (some ⟨g, 0, none⟩) ts.length cap, .int .i64 (k : Int)] 46 (0, 0)) ∧ B.heap[w1.heap.size]? = some (.cells #[.int .i64 2, .int .i64 (tp : Int), S tt, .int .i64 ta, .int .i64 tb, S tc] 53 (0, 0))) ((.take 0 (.take 2 (.take 3 (.take 4 (.one 1 (.one 5 (.one 6 (.take 7 .done))))))))) (by kernel_rfl) (by kernel_rfl) (by kernel_rfl) (fun _ _ _ _ _ h => h) (keep_two HAXq.out ((Bl.refl _).drew)) ?_) -- wp_region_sc 
    intro wd HWD hHeld
    refine sc_take' rfl (by rfl) (by intro w hSw; (try dsimp only at hSw); obtain ⟨a0, a1, -, -, -⟩ := cells2 hSw.1; (try obtain ⟨⟨e0, e1, e2, e3, e4, e5⟩, -⟩ := cells6 hSw.2); go_simp; (try (first | with_reducible rfl | rfl))) ?_; (try simp only [Act.put, List.setIfInBounds_toArray, List.set_cons_zero, List.set_cons_succ])
    refine sc_take' rfl (by rfl) (by intro w hSw; (try dsimp only at hSw); obtain ⟨a0, a1, -, -, -⟩ := cells2 hSw.1; (try obtain ⟨⟨e0, e1, e2, e3, e4, e5⟩, -⟩ := cells6 hSw.2); go_simp; (try (first | with_reducible rfl | rfl))) ?_; (try simp only [Act.put, List.setIfInBounds_toArray, List.set_cons_zero, List.set_cons_succ])
    refine sc_take' rfl (by rfl) (by intro w hSw; (try dsimp only at hSw); obtain ⟨a0, a1, -, -, -⟩ := cells2 hSw.1; (try obtain ⟨⟨e0, e1, e2, e3, e4, e5⟩, -⟩ := cells6 hSw.2); go_simp; (try (first | with_reducible rfl | rfl))) ?_; (try simp only [Act.put, List.setIfInBounds_toArray, List.set_cons_zero, List.set_cons_succ])
    refine sc_take' rfl (by rfl) (by intro w hSw; (try dsimp only at hSw); obtain ⟨a0, a1, -, -, -⟩ := cells2 hSw.1; (try obtain ⟨⟨e0, e1, e2, e3, e4, e5⟩, -⟩ := cells6 hSw.2); go_simp; (try (first | with_reducible rfl | rfl))) ?_; (try simp only [Act.put, List.setIfInBounds_toArray, List.set_cons_zero, List.set_cons_succ])
    refine sc_call' rfl (fun K hK => ?_); go_simp; ((with_reducible refine (rNext_any HK.out hfew).mono ?_); rintro e w5 ⟨rfl, hb⟩); go_wp2_with fail; refine hK.out _ _ (keep_two hHeld hb) (fun hHeld2 => ?_); clear hHeld hK K; have hHeld := hHeld2; clear hHeld2
    have HF5 := Lib.hid ((HFq.out.next HWD.out).next hb)
    clear hb
    obtain ⟨r0, r1, z0, z1, hlr⟩ := cells2 HF5.out.r
    refine sc_call' rfl (fun K hK => ?_); go_simp; refine hK.out _ _ ((keep_set2 (b := W.heap.size + 1) hHeld (by omega) (by omega))) (fun hHeld2 => ?_); clear hHeld hK K; have hHeld := hHeld2; clear hHeld2
    clear r0 r1 z0 z1
    obtain ⟨⟨e0, e1, e2, e3, e4, e5, e6, e7⟩, f0, f1, f2, f3, f4, f5, f6, f7⟩ := eight ((set2_other w5 (b := W.heap.size + 1) (i := W.heap.size + 1 + 1) (by omega) (.slice (some ⟨g, 0, none⟩) ts.length cap) (.int .i64 ((nextK ts.length k) : Int))).trans HF5.out.x)
    refine sc_call' rfl (fun K hK => ?_); go_simp; refine hK.out _ _ ((keep_set8 (b := W.heap.size + 1 + 1) hHeld (by omega) (by omega))) (fun hHeld2 => ?_); clear hHeld hK K; have hHeld := hHeld2; clear hHeld2
    refine sc_take' rfl (by rfl) (by intro w hSw; (try dsimp only at hSw); obtain ⟨a0, a1, -, -, -⟩ := cells2 hSw.1; (try obtain ⟨⟨e0, e1, e2, e3, e4, e5⟩, -⟩ := cells6 hSw.2); go_simp; (try (first | with_reducible rfl | rfl))) ?_; (try simp only [Act.put, List.setIfInBounds_toArray, List.set_cons_zero, List.set_cons_succ])
    refine sc_nil (NoPanic.normal ?_)
    go_wp2
    obtain ⟨⟨q0, q1⟩, q2, q3, q4, q5, q6, q7, q8, q9⟩ := fin_cells (b := W.heap.size + 1) (c := W.heap.size + 1 + 1) (by omega) HF5.out.r HF5.out.x (.slice (some ⟨g, 0, none⟩) ts.length cap) (.int .i64 ((nextK ts.length k) : Int)) (.int .i64 1) (.int .i64 ta) (.int .i64 tb) (S tc) (S []) (S []) (.int .i64 0) (.slice none 0 0)
    exact bodyPost_ret (v := .tuple #[RS g ts.length cap (nextK ts.length k), EV 1 (ta, tb, tc) [] [] 0 (.slice none 0 0), .int .i64 0]) (by simp [results, Tryz.results66, go_sem, q0, q1, q2, q3, q4, q5, q6, q7, q8, q9]) rfl ⟨(nextK ts.length k), .mk 1 (ta, tb, tc) [] [] 0 [], _, 0, HKK.out, ⟨_, rfl, ReadsP.nil _ _ none 0⟩, rfl, fin_bl HF5.out.bl (by omega) (by omega) _ _ _ _ _ _ _ _ _ _, hSay.out⟩
  · rw [if_neg hk2] at hR
    have hb2 : (tk == 2) = false := by simpa using hk2
    have hR' := Lib.hid hR
    clear hR
    go_enter Tryz.func66, Tryz.ntmps66
    go_wp2_with fail
    (with_reducible refine (rPeek_any (H.out.bl HF0.out.bl) hfew HX.out).mono ?_)
    rintro e w1 ⟨rfl, hb1⟩
    have HF1 := Lib.hid (HF0.out.next (hb1.alloc (.cells #[.int .i64 tk, .int .i64 (tp : Int), S tt, .int .i64 ta, .int .i64 tb, S tc] 53)))
    clear hb1
    go_wp2_with fail
    go_loopw [8] (fun i wr => ∃ j : Nat, j ≤ 3 ∧ i = .int .i64 (j : Int) ∧ Hid (constR ts k constL = constR ts k (constL.drop j)) ∧ Hid (FrR W wr g ts.length cap k)) (fun i _ => 3 - (intOf i).toNat)
    case atStart => exact ⟨0, by omega, rfl, rfl, HF1.out⟩
    case round =>
      obtain ⟨j, hj, rfl, HD, HFw⟩ := hrel
      have hzw := HFw.out.size
      by_cases hlt : j < 3
      · obtain ⟨sj, ij, hsj⟩ : ∃ sj ij, constL[j]? = some (sj, ij) := ⟨_, _, List.getElem?_eq_getElem hlt⟩
        obtain ⟨s0, s1, -, -, hls⟩ := cells2 HFw.out.s
        go_upto_region 7 with fail
        go_cut [9, 10] from 42 to 51 (fun p t wc => ∃ A : Nat, p = .pointer (some ⟨A, 0, none⟩) ∧ W.heap.size + 1 + 1 < A ∧ FrR W wc g ts.length cap k ∧ ∃ (kq : Nat) (bq : Bool), t = .bool bq ∧ wc.heap[A]? = some (.cells #[.slice (some ⟨g, 0, none⟩) ts.length cap, .int .i64 (kq : Int)] 46 (0, 0)) ∧ ((bq = true ∧ takeK ts k [sj] = some kq) ∨ (bq = false ∧ takeK ts k [sj] = none)))
        case first =>
          --SLOW1
          clear s0 s1
          obtain ⟨kq, bq, hTE, hq7⟩ : ∃ (kq : Nat) (bq : Bool), takeEnd g cap ts k [sj] = .returned (.tuple #[RS g ts.length cap kq, .bool bq]) ∧ ((bq = true ∧ takeK ts k [sj] = some kq) ∨ (bq = false ∧ takeK ts k [sj] = none)) := by
            cases ht : takeK ts k [sj] with
            | none => exact ⟨k, false, takeEnd_none ht, .inr ⟨rfl, rfl⟩⟩
            | some kq => exact ⟨kq, true, takeEnd_some ht, .inl ⟨rfl, rfl⟩⟩
          have HTE := Lib.hid hTE
          have HT7 := Lib.hid hq7
          clear hTE hq7
          have hj3 : j = 0 ∨ j = 1 ∨ j = 2 := by omega
          rcases hj3 with rfl | rfl | rfl
          all_goals
            obtain ⟨rfl, rfl⟩ : _ = sj ∧ _ = ij := by injection hsj with hsj; injection hsj with h1 h2; exact ⟨h1, h2⟩
            clear hsj
            have HTE2 := HTE.out
            simp only [sFalse, sTrue, sNull] at HTE2
            have HTE := Lib.hid HTE2
            clear HTE2
            refine wp_region_noPanic (wp_region_sd (fun B => B.heap[W.heap.size]? = some (.cells #[.slice (some ⟨g, 0, none⟩) ts.length cap, .int .i64 (k : Int)] 46 (0, 0)) ∧ B.heap[W.heap.size + 1]? = some (.cells #[.slice none 0 0, .int .i64 0] 46 (0, 0))) ((.take 0 (.take 2 (.two 1 10 (.take 3 (.two 4 10 (.two 5 10 (.two 6 10 (.take 7 (.take 8 (.take 9 (.one 10 (.one 11 (.take 12 .done)))))) (.one 6 (.take 7 (.take 8 (.take 9 (.one 11 (.take 12 .done))))))) (.one 5 (.one 6 (.take 7 (.take 8 (.take 9 (.one 11 (.take 12 .done)))))))) (.one 4 (.one 5 (.one 6 (.take 7 (.take 8 (.take 9 (.one 11 (.take 12 .done)))))))))) (.one 1 (.take 3 (.one 4 (.one 5 (.one 6 (.take 7 (.take 8 (.take 9 (.one 11 (.take 12 .done)))))))))))))) (by kernel_rfl) (by kernel_rfl) (by kernel_rfl) (fun _ _ _ _ _ h => h) (keep_two (And.intro HFw.out.s HFw.out.r) ((Bl.refl _).drew)) ?_) -- wp_region_sc 
            intro wd HWD hHeld
            refine sc_take' rfl (by rfl) (by intro w hSw; (try dsimp only at hSw); obtain ⟨a0, a1, -, -, -⟩ := cells2 hSw.1; go_simp; (try (first | with_reducible rfl | rfl))) ?_; (try simp only [Act.put, List.setIfInBounds_toArray, List.set_cons_zero, List.set_cons_succ])
            refine sc_take' rfl (by rfl) (by intro w hSw; (try dsimp only at hSw); obtain ⟨a0, a1, -, -, -⟩ := cells2 hSw.1; go_simp; (try (first | with_reducible rfl | rfl))) ?_; (try simp only [Act.put, List.setIfInBounds_toArray, List.set_cons_zero, List.set_cons_succ])
            refine sc_two ?_ ?_
            focus
              have hzd := HWD.out.size
              refine sc_call' rfl (fun K hK => ?_); go_simp; refine hK.out _ _ ((keep_two hHeld ((Bl.refl _).alloc _))) (fun hHeld2 => ?_); clear hHeld hK K; have hHeld := hHeld2; clear hHeld2
              refine sc_take' rfl (by rfl) (by intro w hSw; (try dsimp only at hSw); obtain ⟨a0, a1, -, -, -⟩ := cells2 hSw.1; go_simp; (try (first | with_reducible rfl | rfl))) ?_; (try simp only [Act.put, List.setIfInBounds_toArray, List.set_cons_zero, List.set_cons_succ])
              refine sc_two ?_ ?_
              focus
                refine sc_call' rfl (fun K hK => ?_); go_simp; refine hK.out _ _ (hHeld) (fun hHeld2 => ?_); clear hHeld hK K; have hHeld := hHeld2; clear hHeld2
                refine sc_two ?_ ?_
                focus
                  refine sc_call' rfl (fun K hK => ?_); go_simp; refine hK.out _ _ ((keep_two hHeld ((Bl.refl _).alloc _))) (fun hHeld2 => ?_); clear hHeld hK K; have hHeld := hHeld2; clear hHeld2
                  refine sc_two ?_ ?_
                  focus
                    refine sc_call' rfl (fun K hK => ?_); go_simp; (refine (rTake_made H.out (HFw.out.bl.call (by first | exact ((HWD.out.alloc _).alloc _).alloc _ | exact (HWD.out.alloc _).alloc _)) hfew HK.out 1 [_] rfl (by simp) (by first | exact three_1 _ _ _ _ | exact heap_new' _ _ (by simp))).mono ?_; rintro e w8 ⟨rfl, hb⟩; have hb8 := hb; rw [HTE.out]); go_wp2_with fail; refine hK.out _ _ (keep_two hHeld hb) (fun hHeld2 => ?_); clear hHeld hK K; have hHeld := hHeld2; clear hHeld2
                    have hS8 := hHeld
                    have hB8 : Bl wr w8 := by first | exact HWD.out.call (((((Bl.refl _).alloc _).alloc _).alloc _).call hb8) | exact HWD.out.call ((((Bl.refl _).alloc _).alloc _).call hb8)
                    have hz8 := hB8.size
                    refine sc_take' rfl (by rfl) (by intro w hSw; (try dsimp only at hSw); obtain ⟨a0, a1, -, -, -⟩ := cells2 hSw.1; go_simp; (try (first | with_reducible rfl | rfl))) ?_; (try simp only [Act.put, List.setIfInBounds_toArray, List.set_cons_zero, List.set_cons_succ])
                    refine sc_take' rfl (by rfl) (by intro w hSw; (try dsimp only at hSw); obtain ⟨a0, a1, -, -, -⟩ := cells2 hSw.1; go_simp; (try (first | with_reducible rfl | rfl))) ?_; (try simp only [Act.put, List.setIfInBounds_toArray, List.set_cons_zero, List.set_cons_succ])
                    refine sc_take' rfl (by rfl) (by intro w hSw; (try dsimp only at hSw); obtain ⟨a0, a1, -, -, -⟩ := cells2 hSw.1; go_simp; (try (first | with_reducible rfl | rfl))) ?_; (try simp only [Act.put, List.setIfInBounds_toArray, List.set_cons_zero, List.set_cons_succ])
                    have hzd := HWD.out.size
                    refine sc_call' rfl (fun K hK => ?_); go_simp; refine hK.out _ _ ((keep_two hHeld ((Bl.refl _).alloc _))) (fun hHeld2 => ?_); clear hHeld hK K; have hHeld := hHeld2; clear hHeld2
                    first | (have hA : w8.heap[wd.heap.size]? = some (.cells #[.slice none 0 0, .int .i64 0] 46 (0, 0)) := (hb8.block _ (by simp only [World.size_alloc]; omega)).trans (three_0 _ _ _ _)) | (have hA : w8.heap[wd.heap.size + 1]? = some (.cells #[.slice none 0 0, .int .i64 0] 46 (0, 0)) := (hb8.block _ (by simp only [World.size_alloc]; omega)).trans (three_1 _ _ _ _)) | (have hA : w8.heap[wd.heap.size + 1 + 1]? = some (.cells #[.slice none 0 0, .int .i64 0] 46 (0, 0)) := (hb8.block _ (by simp only [World.size_alloc]; omega)).trans (heap_new' _ _ (by simp))) | skip
                    try (have hq := cells2 hA; obtain ⟨q0, q1, f0, f1, hlq⟩ := hq)
                    refine sc_call' rfl (fun K hK => ?_); go_simp; refine hK.out _ _ ((by first | exact keep_set2 (b := wd.heap.size) hHeld (by omega) (by omega) | exact keep_set2 (b := wd.heap.size + 1) hHeld (by omega) (by omega) | exact keep_set2 (b := wd.heap.size + 1 + 1) hHeld (by omega) (by omega) | exact keep_two hS8 ((Bl.refl _).alloc _))) (fun hHeld2 => ?_); clear hHeld hK K; have hHeld := hHeld2; clear hHeld2
                    refine sc_take' rfl (by rfl) (by intro w hSw; (try dsimp only at hSw); obtain ⟨a0, a1, -, -, -⟩ := cells2 hSw.1; go_simp; (try (first | with_reducible rfl | rfl))) ?_; (try simp only [Act.put, List.setIfInBounds_toArray, List.set_cons_zero, List.set_cons_succ])
                    refine sc_nil (NoPanic.normal ?_)
                    go_wp2_with fail
                    go_meet
                    case rel => first | exact ⟨_, rfl, by omega, (HFw.out.next hB8).set2' (by omega) _ _, kq, bq, rfl, set2_heap hA _ _, HT7.out⟩ | exact ⟨_, rfl, by omega, HFw.out.next (hB8.alloc _), kq, bq, rfl, heap_new _ _, HT7.out⟩
                  rotate_left 1
                  focus
                    have hzd := HWD.out.size
                    refine sc_call' rfl (fun K hK => ?_); go_simp; refine hK.out _ _ ((keep_two hHeld ((Bl.refl _).alloc _))) (fun hHeld2 => ?_); clear hHeld hK K; have hHeld := hHeld2; clear hHeld2
                    refine sc_call' rfl (fun K hK => ?_); go_simp; (refine (rTake_made H.out (HFw.out.bl.call (by first | exact ((HWD.out.alloc _).alloc _).alloc _ | exact (HWD.out.alloc _).alloc _)) hfew HK.out 1 [_] rfl (by simp) (by first | exact three_1 _ _ _ _ | exact heap_new' _ _ (by simp))).mono ?_; rintro e w8 ⟨rfl, hb⟩; have hb8 := hb; rw [HTE.out]); go_wp2_with fail; refine hK.out _ _ (keep_two hHeld hb) (fun hHeld2 => ?_); clear hHeld hK K; have hHeld := hHeld2; clear hHeld2
                    have hS8 := hHeld
                    have hB8 : Bl wr w8 := by first | exact HWD.out.call (((((Bl.refl _).alloc _).alloc _).alloc _).call hb8) | exact HWD.out.call ((((Bl.refl _).alloc _).alloc _).call hb8)
                    have hz8 := hB8.size
                    refine sc_take' rfl (by rfl) (by intro w hSw; (try dsimp only at hSw); obtain ⟨a0, a1, -, -, -⟩ := cells2 hSw.1; go_simp; (try (first | with_reducible rfl | rfl))) ?_; (try simp only [Act.put, List.setIfInBounds_toArray, List.set_cons_zero, List.set_cons_succ])
                    refine sc_take' rfl (by rfl) (by intro w hSw; (try dsimp only at hSw); obtain ⟨a0, a1, -, -, -⟩ := cells2 hSw.1; go_simp; (try (first | with_reducible rfl | rfl))) ?_; (try simp only [Act.put, List.setIfInBounds_toArray, List.set_cons_zero, List.set_cons_succ])
                    refine sc_take' rfl (by rfl) (by intro w hSw; (try dsimp only at hSw); obtain ⟨a0, a1, -, -, -⟩ := cells2 hSw.1; go_simp; (try (first | with_reducible rfl | rfl))) ?_; (try simp only [Act.put, List.setIfInBounds_toArray, List.set_cons_zero, List.set_cons_succ])
                    first | (have hA : w8.heap[wd.heap.size]? = some (.cells #[.slice none 0 0, .int .i64 0] 46 (0, 0)) := (hb8.block _ (by simp only [World.size_alloc]; omega)).trans (three_0 _ _ _ _)) | (have hA : w8.heap[wd.heap.size + 1]? = some (.cells #[.slice none 0 0, .int .i64 0] 46 (0, 0)) := (hb8.block _ (by simp only [World.size_alloc]; omega)).trans (three_1 _ _ _ _)) | (have hA : w8.heap[wd.heap.size + 1 + 1]? = some (.cells #[.slice none 0 0, .int .i64 0] 46 (0, 0)) := (hb8.block _ (by simp only [World.size_alloc]; omega)).trans (heap_new' _ _ (by simp))) | skip
                    try (have hq := cells2 hA; obtain ⟨q0, q1, f0, f1, hlq⟩ := hq)
                    refine sc_call' rfl (fun K hK => ?_); go_simp; refine hK.out _ _ ((by first | exact keep_set2 (b := wd.heap.size) hHeld (by omega) (by omega) | exact keep_set2 (b := wd.heap.size + 1) hHeld (by omega) (by omega) | exact keep_set2 (b := wd.heap.size + 1 + 1) hHeld (by omega) (by omega) | exact keep_two hS8 ((Bl.refl _).alloc _))) (fun hHeld2 => ?_); clear hHeld hK K; have hHeld := hHeld2; clear hHeld2
                    refine sc_take' rfl (by rfl) (by intro w hSw; (try dsimp only at hSw); obtain ⟨a0, a1, -, -, -⟩ := cells2 hSw.1; go_simp; (try (first | with_reducible rfl | rfl))) ?_; (try simp only [Act.put, List.setIfInBounds_toArray, List.set_cons_zero, List.set_cons_succ])
                    refine sc_nil (NoPanic.normal ?_)
                    go_wp2_with fail
                    go_meet
                    case rel => first | exact ⟨_, rfl, by omega, (HFw.out.next hB8).set2' (by omega) _ _, kq, bq, rfl, set2_heap hA _ _, HT7.out⟩ | exact ⟨_, rfl, by omega, HFw.out.next (hB8.alloc _), kq, bq, rfl, heap_new _ _, HT7.out⟩
                rotate_left 2
                focus
                  have hzd := HWD.out.size
                  refine sc_call' rfl (fun K hK => ?_); go_simp; refine hK.out _ _ ((keep_two hHeld ((Bl.refl _).alloc _))) (fun hHeld2 => ?_); clear hHeld hK K; have hHeld := hHeld2; clear hHeld2
                  refine sc_call' rfl (fun K hK => ?_); go_simp; refine hK.out _ _ ((keep_two hHeld ((Bl.refl _).alloc _))) (fun hHeld2 => ?_); clear hHeld hK K; have hHeld := hHeld2; clear hHeld2
                  refine sc_call' rfl (fun K hK => ?_); go_simp; (refine (rTake_made H.out (HFw.out.bl.call (by first | exact ((HWD.out.alloc _).alloc _).alloc _ | exact (HWD.out.alloc _).alloc _)) hfew HK.out 1 [_] rfl (by simp) (by first | exact three_1 _ _ _ _ | exact heap_new' _ _ (by simp))).mono ?_; rintro e w8 ⟨rfl, hb⟩; have hb8 := hb; rw [HTE.out]); go_wp2_with fail; refine hK.out _ _ (keep_two hHeld hb) (fun hHeld2 => ?_); clear hHeld hK K; have hHeld := hHeld2; clear hHeld2
                  have hS8 := hHeld
                  have hB8 : Bl wr w8 := by first | exact HWD.out.call (((((Bl.refl _).alloc _).alloc _).alloc _).call hb8) | exact HWD.out.call ((((Bl.refl _).alloc _).alloc _).call hb8)
                  have hz8 := hB8.size
                  refine sc_take' rfl (by rfl) (by intro w hSw; (try dsimp only at hSw); obtain ⟨a0, a1, -, -, -⟩ := cells2 hSw.1; go_simp; (try (first | with_reducible rfl | rfl))) ?_; (try simp only [Act.put, List.setIfInBounds_toArray, List.set_cons_zero, List.set_cons_succ])
                  refine sc_take' rfl (by rfl) (by intro w hSw; (try dsimp only at hSw); obtain ⟨a0, a1, -, -, -⟩ := cells2 hSw.1; go_simp; (try (first | with_reducible rfl | rfl))) ?_; (try simp only [Act.put, List.setIfInBounds_toArray, List.set_cons_zero, List.set_cons_succ])
                  refine sc_take' rfl (by rfl) (by intro w hSw; (try dsimp only at hSw); obtain ⟨a0, a1, -, -, -⟩ := cells2 hSw.1; go_simp; (try (first | with_reducible rfl | rfl))) ?_; (try simp only [Act.put, List.setIfInBounds_toArray, List.set_cons_zero, List.set_cons_succ])
                  first | (have hA : w8.heap[wd.heap.size]? = some (.cells #[.slice none 0 0, .int .i64 0] 46 (0, 0)) := (hb8.block _ (by simp only [World.size_alloc]; omega)).trans (three_0 _ _ _ _)) | (have hA : w8.heap[wd.heap.size + 1]? = some (.cells #[.slice none 0 0, .int .i64 0] 46 (0, 0)) := (hb8.block _ (by simp only [World.size_alloc]; omega)).trans (three_1 _ _ _ _)) | (have hA : w8.heap[wd.heap.size + 1 + 1]? = some (.cells #[.slice none 0 0, .int .i64 0] 46 (0, 0)) := (hb8.block _ (by simp only [World.size_alloc]; omega)).trans (heap_new' _ _ (by simp))) | skip
                  try (have hq := cells2 hA; obtain ⟨q0, q1, f0, f1, hlq⟩ := hq)
                  refine sc_call' rfl (fun K hK => ?_); go_simp; refine hK.out _ _ ((by first | exact keep_set2 (b := wd.heap.size) hHeld (by omega) (by omega) | exact keep_set2 (b := wd.heap.size + 1) hHeld (by omega) (by omega) | exact keep_set2 (b := wd.heap.size + 1 + 1) hHeld (by omega) (by omega) | exact keep_two hS8 ((Bl.refl _).alloc _))) (fun hHeld2 => ?_); clear hHeld hK K; have hHeld := hHeld2; clear hHeld2
                  refine sc_take' rfl (by rfl) (by intro w hSw; (try dsimp only at hSw); obtain ⟨a0, a1, -, -, -⟩ := cells2 hSw.1; go_simp; (try (first | with_reducible rfl | rfl))) ?_; (try simp only [Act.put, List.setIfInBounds_toArray, List.set_cons_zero, List.set_cons_succ])
                  refine sc_nil (NoPanic.normal ?_)
                  go_wp2_with fail
                  go_meet
                  case rel => first | exact ⟨_, rfl, by omega, (HFw.out.next hB8).set2' (by omega) _ _, kq, bq, rfl, set2_heap hA _ _, HT7.out⟩ | exact ⟨_, rfl, by omega, HFw.out.next (hB8.alloc _), kq, bq, rfl, heap_new _ _, HT7.out⟩
              rotate_left 3
              focus
                have hzd := HWD.out.size
                refine sc_call' rfl (fun K hK => ?_); go_simp; refine hK.out _ _ ((keep_two hHeld ((Bl.refl _).alloc _))) (fun hHeld2 => ?_); clear hHeld hK K; have hHeld := hHeld2; clear hHeld2
                refine sc_call' rfl (fun K hK => ?_); go_simp; refine hK.out _ _ (hHeld) (fun hHeld2 => ?_); clear hHeld hK K; have hHeld := hHeld2; clear hHeld2
                refine sc_call' rfl (fun K hK => ?_); go_simp; refine hK.out _ _ ((keep_two hHeld ((Bl.refl _).alloc _))) (fun hHeld2 => ?_); clear hHeld hK K; have hHeld := hHeld2; clear hHeld2
                refine sc_call' rfl (fun K hK => ?_); go_simp; (refine (rTake_made H.out (HFw.out.bl.call (by first | exact ((HWD.out.alloc _).alloc _).alloc _ | exact (HWD.out.alloc _).alloc _)) hfew HK.out 1 [_] rfl (by simp) (by first | exact three_1 _ _ _ _ | exact heap_new' _ _ (by simp))).mono ?_; rintro e w8 ⟨rfl, hb⟩; have hb8 := hb; rw [HTE.out]); go_wp2_with fail; refine hK.out _ _ (keep_two hHeld hb) (fun hHeld2 => ?_); clear hHeld hK K; have hHeld := hHeld2; clear hHeld2
                have hS8 := hHeld
                have hB8 : Bl wr w8 := by first | exact HWD.out.call (((((Bl.refl _).alloc _).alloc _).alloc _).call hb8) | exact HWD.out.call ((((Bl.refl _).alloc _).alloc _).call hb8)
                have hz8 := hB8.size
                refine sc_take' rfl (by rfl) (by intro w hSw; (try dsimp only at hSw); obtain ⟨a0, a1, -, -, -⟩ := cells2 hSw.1; go_simp; (try (first | with_reducible rfl | rfl))) ?_; (try simp only [Act.put, List.setIfInBounds_toArray, List.set_cons_zero, List.set_cons_succ])
                refine sc_take' rfl (by rfl) (by intro w hSw; (try dsimp only at hSw); obtain ⟨a0, a1, -, -, -⟩ := cells2 hSw.1; go_simp; (try (first | with_reducible rfl | rfl))) ?_; (try simp only [Act.put, List.setIfInBounds_toArray, List.set_cons_zero, List.set_cons_succ])
                refine sc_take' rfl (by rfl) (by intro w hSw; (try dsimp only at hSw); obtain ⟨a0, a1, -, -, -⟩ := cells2 hSw.1; go_simp; (try (first | with_reducible rfl | rfl))) ?_; (try simp only [Act.put, List.setIfInBounds_toArray, List.set_cons_zero, List.set_cons_succ])
                first | (have hA : w8.heap[wd.heap.size]? = some (.cells #[.slice none 0 0, .int .i64 0] 46 (0, 0)) := (hb8.block _ (by simp only [World.size_alloc]; omega)).trans (three_0 _ _ _ _)) | (have hA : w8.heap[wd.heap.size + 1]? = some (.cells #[.slice none 0 0, .int .i64 0] 46 (0, 0)) := (hb8.block _ (by simp only [World.size_alloc]; omega)).trans (three_1 _ _ _ _)) | (have hA : w8.heap[wd.heap.size + 1 + 1]? = some (.cells #[.slice none 0 0, .int .i64 0] 46 (0, 0)) := (hb8.block _ (by simp only [World.size_alloc]; omega)).trans (heap_new' _ _ (by simp))) | skip
                try (have hq := cells2 hA; obtain ⟨q0, q1, f0, f1, hlq⟩ := hq)
                refine sc_call' rfl (fun K hK => ?_); go_simp; refine hK.out _ _ ((by first | exact keep_set2 (b := wd.heap.size) hHeld (by omega) (by omega) | exact keep_set2 (b := wd.heap.size + 1) hHeld (by omega) (by omega) | exact keep_set2 (b := wd.heap.size + 1 + 1) hHeld (by omega) (by omega) | exact keep_two hS8 ((Bl.refl _).alloc _))) (fun hHeld2 => ?_); clear hHeld hK K; have hHeld := hHeld2; clear hHeld2
                refine sc_take' rfl (by rfl) (by intro w hSw; (try dsimp only at hSw); obtain ⟨a0, a1, -, -, -⟩ := cells2 hSw.1; go_simp; (try (first | with_reducible rfl | rfl))) ?_; (try simp only [Act.put, List.setIfInBounds_toArray, List.set_cons_zero, List.set_cons_succ])
                refine sc_nil (NoPanic.normal ?_)
                go_wp2_with fail
                go_meet
                case rel => first | exact ⟨_, rfl, by omega, (HFw.out.next hB8).set2' (by omega) _ _, kq, bq, rfl, set2_heap hA _ _, HT7.out⟩ | exact ⟨_, rfl, by omega, HFw.out.next (hB8.alloc _), kq, bq, rfl, heap_new _ _, HT7.out⟩
            rotate_left 4
            focus
              have hzd := HWD.out.size
              refine sc_call' rfl (fun K hK => ?_); go_simp; refine hK.out _ _ ((keep_two hHeld ((Bl.refl _).alloc _))) (fun hHeld2 => ?_); clear hHeld hK K; have hHeld := hHeld2; clear hHeld2
              have hzd := HWD.out.size
              refine sc_call' rfl (fun K hK => ?_); go_simp; refine hK.out _ _ ((keep_two hHeld ((Bl.refl _).alloc _))) (fun hHeld2 => ?_); clear hHeld hK K; have hHeld := hHeld2; clear hHeld2
              refine sc_take' rfl (by rfl) (by intro w hSw; (try dsimp only at hSw); obtain ⟨a0, a1, -, -, -⟩ := cells2 hSw.1; go_simp; (try (first | with_reducible rfl | rfl))) ?_; (try simp only [Act.put, List.setIfInBounds_toArray, List.set_cons_zero, List.set_cons_succ])
              refine sc_call' rfl (fun K hK => ?_); go_simp; refine hK.out _ _ (hHeld) (fun hHeld2 => ?_); clear hHeld hK K; have hHeld := hHeld2; clear hHeld2
              refine sc_call' rfl (fun K hK => ?_); go_simp; refine hK.out _ _ ((keep_two hHeld ((Bl.refl _).alloc _))) (fun hHeld2 => ?_); clear hHeld hK K; have hHeld := hHeld2; clear hHeld2
              refine sc_call' rfl (fun K hK => ?_); go_simp; (refine (rTake_made H.out (HFw.out.bl.call (by first | exact ((HWD.out.alloc _).alloc _).alloc _ | exact (HWD.out.alloc _).alloc _)) hfew HK.out 1 [_] rfl (by simp) (by first | exact three_1 _ _ _ _ | exact heap_new' _ _ (by simp))).mono ?_; rintro e w8 ⟨rfl, hb⟩; have hb8 := hb; rw [HTE.out]); go_wp2_with fail; refine hK.out _ _ (keep_two hHeld hb) (fun hHeld2 => ?_); clear hHeld hK K; have hHeld := hHeld2; clear hHeld2
              have hS8 := hHeld
              have hB8 : Bl wr w8 := by first | exact HWD.out.call (((((Bl.refl _).alloc _).alloc _).alloc _).call hb8) | exact HWD.out.call ((((Bl.refl _).alloc _).alloc _).call hb8)
              have hz8 := hB8.size
              refine sc_take' rfl (by rfl) (by intro w hSw; (try dsimp only at hSw); obtain ⟨a0, a1, -, -, -⟩ := cells2 hSw.1; go_simp; (try (first | with_reducible rfl | rfl))) ?_; (try simp only [Act.put, List.setIfInBounds_toArray, List.set_cons_zero, List.set_cons_succ])
              refine sc_take' rfl (by rfl) (by intro w hSw; (try dsimp only at hSw); obtain ⟨a0, a1, -, -, -⟩ := cells2 hSw.1; go_simp; (try (first | with_reducible rfl | rfl))) ?_; (try simp only [Act.put, List.setIfInBounds_toArray, List.set_cons_zero, List.set_cons_succ])
              refine sc_take' rfl (by rfl) (by intro w hSw; (try dsimp only at hSw); obtain ⟨a0, a1, -, -, -⟩ := cells2 hSw.1; go_simp; (try (first | with_reducible rfl | rfl))) ?_; (try simp only [Act.put, List.setIfInBounds_toArray, List.set_cons_zero, List.set_cons_succ])
              first | (have hA : w8.heap[wd.heap.size]? = some (.cells #[.slice none 0 0, .int .i64 0] 46 (0, 0)) := (hb8.block _ (by simp only [World.size_alloc]; omega)).trans (three_0 _ _ _ _)) | (have hA : w8.heap[wd.heap.size + 1]? = some (.cells #[.slice none 0 0, .int .i64 0] 46 (0, 0)) := (hb8.block _ (by simp only [World.size_alloc]; omega)).trans (three_1 _ _ _ _)) | (have hA : w8.heap[wd.heap.size + 1 + 1]? = some (.cells #[.slice none 0 0, .int .i64 0] 46 (0, 0)) := (hb8.block _ (by simp only [World.size_alloc]; omega)).trans (heap_new' _ _ (by simp))) | skip
              try (have hq := cells2 hA; obtain ⟨q0, q1, f0, f1, hlq⟩ := hq)
              refine sc_call' rfl (fun K hK => ?_); go_simp; refine hK.out _ _ ((by first | exact keep_set2 (b := wd.heap.size) hHeld (by omega) (by omega) | exact keep_set2 (b := wd.heap.size + 1) hHeld (by omega) (by omega) | exact keep_set2 (b := wd.heap.size + 1 + 1) hHeld (by omega) (by omega) | exact keep_two hS8 ((Bl.refl _).alloc _))) (fun hHeld2 => ?_); clear hHeld hK K; have hHeld := hHeld2; clear hHeld2
              refine sc_take' rfl (by rfl) (by intro w hSw; (try dsimp only at hSw); obtain ⟨a0, a1, -, -, -⟩ := cells2 hSw.1; go_simp; (try (first | with_reducible rfl | rfl))) ?_; (try simp only [Act.put, List.setIfInBounds_toArray, List.set_cons_zero, List.set_cons_succ])
              refine sc_nil (NoPanic.normal ?_)
              go_wp2_with fail
              go_meet
              case rel => first | exact ⟨_, rfl, by omega, (HFw.out.next hB8).set2' (by omega) _ _, kq, bq, rfl, set2_heap hA _ _, HT7.out⟩ | exact ⟨_, rfl, by omega, HFw.out.next (hB8.alloc _), kq, bq, rfl, heap_new _ _, HT7.out⟩
          --ENDSLOW1
        case rest =>
          obtain ⟨A, rfl, hA, hF, kq, bq, rfl, hAq, hq⟩ := hcut
          have hcd : constR ts k (constL.drop j) = match takeK ts k [sj] with
              | some k' => some (k', ij)
              | none => constR ts k (constL.drop (j + 1)) := by
            have hd : constL.drop j = (sj, ij) :: constL.drop (j + 1) := by
              have e := List.drop_eq_getElem_cons (l := constL) (i := j) hlt
              rw [List.getElem?_eq_getElem hlt] at hsj
              injection hsj with hsj
              rw [e, hsj]
            rw [hd, const_drop]
          have hij : ij = (j : Int) := by
            have hj3 : j = 0 ∨ j = 1 ∨ j = 2 := by omega
            rcases hj3 with rfl | rfl | rfl <;> (injection hsj with hsj; injection hsj with h1 h2; exact h2.symm)
          subst hij
          have hj3 : (j : Int) < 3 := by omega
          rcases hq with ⟨rfl, ht⟩ | ⟨rfl, ht⟩
          · have hR2 := hR'.out
            rw [show constR ts k [(sFalse, 0), (sTrue, 1), (sNull, 2)] = constR ts k constL from rfl, HD.out, hcd, ht] at hR2
            have hSay := Lib.hid (show Says R kq (valE (ofK (j : Int), ofN (j : Int), [])) 0 from .inl ⟨rfl, hR2⟩)
            have HKK := Lib.hid (take1_le HT.out HK.out ht).2
            have HFq := Lib.hid hF
            have HAXq := Lib.hid (And.intro hAq hF.s)
            have hzA := (Array.getElem?_eq_some_iff.1 hAq).1
            clear hR2 ht hcd hF hAq s0 s1 hsj
            go_wp2_with fail
            -- a region that answers with an expression without arguments, behind one call (pull: its contract); HAXq, HFq
            refine wp_region_noPanic (wp_region_sd (fun B => B.heap[A]? = some (.cells #[.slice (some ⟨g, 0, none⟩) ts.length cap, .int .i64 (kq : Int)] 46 (0, 0)) ∧ B.heap[W.heap.size]? = some (.cells #[.slice (some ⟨g, 0, none⟩) ts.length cap, .int .i64 (k : Int)] 46 (0, 0))) ((.take 0 (.take 1 (.one 2 (.take 3 (.one 4 (.one 5 (.take 6 .done)))))))) (by kernel_rfl) (by kernel_rfl) (by kernel_rfl) (fun _ _ _ _ _ h => h) (keep_two HAXq.out ((Bl.refl _).drew)) ?_) -- wp_region_sc 
            intro wd HWD hHeld
            refine sc_take' rfl (by rfl) (by intro w hSw; (try dsimp only at hSw); obtain ⟨a0, a1, -, -, -⟩ := cells2 hSw.1; (try obtain ⟨⟨e0, e1, e2, e3, e4, e5⟩, -⟩ := cells6 hSw.2); go_simp; (try (first | with_reducible rfl | rfl))) ?_; (try simp only [Act.put, List.setIfInBounds_toArray, List.set_cons_zero, List.set_cons_succ])
            refine sc_take' rfl (by rfl) (by intro w hSw; (try dsimp only at hSw); obtain ⟨a0, a1, -, -, -⟩ := cells2 hSw.1; (try obtain ⟨⟨e0, e1, e2, e3, e4, e5⟩, -⟩ := cells6 hSw.2); go_simp; (try (first | with_reducible rfl | rfl))) ?_; (try simp only [Act.put, List.setIfInBounds_toArray, List.set_cons_zero, List.set_cons_succ])
            refine sc_call' rfl (fun K hK => ?_); go_simp; ((with_reducible refine (rOf_any (j : Int) (by omega) (by omega) _).mono ?_); rintro e w5 ⟨rfl, hb⟩); go_wp2_with fail; refine hK.out _ _ (keep_two hHeld hb) (fun hHeld2 => ?_); clear hHeld hK K; have hHeld := hHeld2; clear hHeld2
            have HF5 := Lib.hid ((HFq.out.next HWD.out).next hb)
            clear hb
            refine sc_take' rfl (by rfl) (by intro w hSw; (try dsimp only at hSw); obtain ⟨a0, a1, -, -, -⟩ := cells2 hSw.1; (try obtain ⟨⟨e0, e1, e2, e3, e4, e5⟩, -⟩ := cells6 hSw.2); go_simp; (try (first | with_reducible rfl | rfl))) ?_; (try simp only [Act.put, List.setIfInBounds_toArray, List.set_cons_zero, List.set_cons_succ])
            obtain ⟨r0, r1, z0, z1, hlr⟩ := cells2 HF5.out.r
            refine sc_call' rfl (fun K hK => ?_); go_simp; refine hK.out _ _ ((keep_set2 (b := W.heap.size + 1) hHeld (by omega) (by omega))) (fun hHeld2 => ?_); clear hHeld hK K; have hHeld := hHeld2; clear hHeld2
            clear r0 r1 z0 z1
            obtain ⟨⟨e0, e1, e2, e3, e4, e5, e6, e7⟩, f0, f1, f2, f3, f4, f5, f6, f7⟩ := eight ((set2_other w5 (b := W.heap.size + 1) (i := W.heap.size + 1 + 1) (by omega) (.slice (some ⟨g, 0, none⟩) ts.length cap) (.int .i64 (kq : Int))).trans HF5.out.x)
            refine sc_call' rfl (fun K hK => ?_); go_simp; refine hK.out _ _ ((keep_set8 (b := W.heap.size + 1 + 1) hHeld (by omega) (by omega))) (fun hHeld2 => ?_); clear hHeld hK K; have hHeld := hHeld2; clear hHeld2
            refine sc_take' rfl (by rfl) (by intro w hSw; (try dsimp only at hSw); obtain ⟨a0, a1, -, -, -⟩ := cells2 hSw.1; (try obtain ⟨⟨e0, e1, e2, e3, e4, e5⟩, -⟩ := cells6 hSw.2); go_simp; (try (first | with_reducible rfl | rfl))) ?_; (try simp only [Act.put, List.setIfInBounds_toArray, List.set_cons_zero, List.set_cons_succ])
            refine sc_nil (NoPanic.normal ?_)
            go_wp2
            obtain ⟨⟨q0, q1⟩, q2, q3, q4, q5, q6, q7, q8, q9⟩ := fin_cells (b := W.heap.size + 1) (c := W.heap.size + 1 + 1) (by omega) HF5.out.r HF5.out.x (.slice (some ⟨g, 0, none⟩) ts.length cap) (.int .i64 (kq : Int)) (.int .i64 1) (.int .i64 (ofK (j : Int))) (.int .i64 (ofN (j : Int))) (S []) (S []) (S []) (.int .i64 0) (.slice none 0 0)
            exact bodyPost_ret (v := .tuple #[RS g ts.length cap kq, EV 1 ((ofK (j : Int)), (ofN (j : Int)), []) [] [] 0 (.slice none 0 0), .int .i64 0]) (by simp [results, Tryz.results66, go_sem, q0, q1, q2, q3, q4, q5, q6, q7, q8, q9]) rfl ⟨kq, .mk 1 ((ofK (j : Int)), (ofN (j : Int)), []) [] [] 0 [], _, 0, HKK.out, ⟨_, rfl, ReadsP.nil _ _ none 0⟩, rfl, fin_bl HF5.out.bl (by omega) (by omega) _ _ _ _ _ _ _ _ _ _, hSay.out⟩
          · have HDD := Lib.hid (show constR ts k constL = constR ts k (constL.drop (j + 1)) from by rw [HD.out, hcd, ht])
            have HFF := Lib.hid hF
            clear ht hcd hF hAq s0 s1 hsj
            go_wp2
            go_roundw
            case rel => exact ⟨j + 1, by omega, by go_num, HDD.out, HFF.out⟩
            case measure => simp [intOf]; omega
      · obtain rfl : j = 3 := by omega
        have hR2 := hR'.out
        rw [show constR ts k [(sFalse, 0), (sTrue, 1), (sNull, 2)] = constR ts k constL from rfl, HD.out, show constR ts k (constL.drop 3) = none from rfl] at hR2
        simp only at hR2
        obtain ⟨s0, s1, -, -, hls⟩ := cells2 HFw.out.s
        clear HD hlt hj
        cases h40 : takeK ts k [[40]] with
        | some k1 =>
          --SLOW2
          rw [h40] at hR2
          simp only at hR2
          rw [← rdR_deeper] at hR2
          have HE := Lib.hid (takeEnd_some (g := g) (cap := cap) h40)
          have hk1 := Lib.hid (take1_le HT.out HK.out h40).2
          have hne : rdR ts f 0 k1 (d + 1) ≠ .out := by
            have := HNE.out
            rw [hR2] at this
            exact bind_out this
          have HN := Lib.hid hne
          have HR2 := Lib.hid hR2
          clear h40 hne hR2
          go_wp2_with fail
          refine (rTake_made H.out (HFw.out.bl.alloc _) hfew HK.out 1 [[40]] rfl (by simp) (heap_new _ _)).mono ?_
          rintro e w3 ⟨rfl, hb3⟩
          rw [HE.out]
          have HF3 := Lib.hid (HFw.out.next (((Bl.refl _).alloc _).call hb3))
          clear hb3 s0 s1
          go_wp2_with fail
          refine (HI.out _ g cap ts 0 k1 (d + 1) 0 (d + 1) rfl rfl (H.out.bl (HF3.out.bl.alloc _)) HT.out hfew hk1.out (by omega) (by omega) HN.out).mono ?_
          rintro e w4 ⟨k', x, v, c, hk', ⟨sv, rfl, hA⟩, rfl, hb4, hs⟩
          have HF4 := Lib.hid (HF3.out.next (((Bl.refl _).alloc _).call hb4))
          have hz3 := HF3.out.size
          obtain ⟨xk, ⟨x1, x2, x3⟩, xt, xn, xo, xa⟩ := x
          obtain ⟨asv, csv, rfl⟩ := hA.shape
          simp only [Ex.k, Ex.v, Ex.t, Ex.n, Ex.o, Ex.args] at hA ⊢
          have HA4 := Lib.hid (show ReadsP (fun b => W.heap.size + 3 ≤ b ∧ True) w4 (.slice asv xa.length csv) xa from hA.of fun b hl (hb : _ ≤ b) => ⟨by rw [World.size_alloc] at hb; omega, trivial⟩)
          have hz4 := HF4.out.size
          have HS := Lib.hid hs
          have HKK := Lib.hid hk'
          have hbq : Bl w4 ((w4.alloc (.cells #[.slice (some ⟨g, 0, none⟩) ts.length cap, .int .i64 (k' : Int)] 46)).alloc (.cells #[.int .i64 xk, .int .i64 x1, .int .i64 x2, S x3, S xt, S xn, .int .i64 xo, .slice asv xa.length csv] 30)) := ((Bl.refl w4).alloc _).alloc _
          have HAXq := Lib.hid (show ((w4.alloc (.cells #[.slice (some ⟨g, 0, none⟩) ts.length cap, .int .i64 (k' : Int)] 46)).alloc (.cells #[.int .i64 xk, .int .i64 x1, .int .i64 x2, S x3, S xt, S xn, .int .i64 xo, .slice asv xa.length csv] 30)).heap[w4.heap.size]? = some (.cells #[.slice (some ⟨g, 0, none⟩) ts.length cap, .int .i64 (k' : Int)] 46 (0, 0)) ∧ ((w4.alloc (.cells #[.slice (some ⟨g, 0, none⟩) ts.length cap, .int .i64 (k' : Int)] 46)).alloc (.cells #[.int .i64 xk, .int .i64 x1, .int .i64 x2, S x3, S xt, S xn, .int .i64 xo, .slice asv xa.length csv] 30)).heap[w4.heap.size + 1]? = some (.cells #[.int .i64 xk, .int .i64 x1, .int .i64 x2, S x3, S xt, S xn, .int .i64 xo, .slice asv xa.length csv] 30 (0, 0)) from ⟨(heap_old _ _ (by simp)).trans (heap_new w4 _), heap_new' _ _ (by simp)⟩)
          have HAq := Lib.hid (HA4.out.bl hbq)
          have HFq := Lib.hid (HF4.out.next hbq)
          clear hb4 hA hs hk' hbq
          by_cases hc0 : c = 0
          · subst hc0
            have hRy := HS.out.yes
            have hR3 := HR2.out
            rw [hRy] at hR3
            replace hR3 : R = match takeK ts k' [[41]] with
              | some k3 => .good k3 (.mk xk (x1, x2, x3) xt xn xo xa)
              | none => .bad 261 := hR3
            clear hRy
            cases h41 : takeK ts k' [[41]] with
            | some k3 =>
              rw [h41] at hR3
              have hSay := Lib.hid (show Says R k3 (.mk xk (x1, x2, x3) xt xn xo xa) 0 from .inl ⟨rfl, hR3⟩)
              have HE5 := Lib.hid (takeEnd_some (g := g) (cap := cap) h41)
              have hk3 := Lib.hid (take1_le HT.out HKK.out h41).2
              clear hR3 h41
              go_wp2_with fail
              refine (rTake_made H.out (HFq.out.bl.alloc _) hfew HKK.out 1 [[41]] rfl (by simp) (heap_new' _ _ (by simp))).mono ?_
              rintro e w5 ⟨rfl, hb5⟩
              rw [HE5.out]
              have hbq := (((Bl.refl _).alloc _).call hb5).alloc (.cells #[.slice (some ⟨g, 0, none⟩) ts.length cap, .int .i64 (k3 : Int)] 46)
              have HAXq := Lib.hid (And.intro (heap_new w5 (.cells #[.slice (some ⟨g, 0, none⟩) ts.length cap, .int .i64 (k3 : Int)] 46)) (keep_two HAXq.out hbq).2)
              have HAq := Lib.hid (HAq.out.bl hbq)
              have HFq := Lib.hid (HFq.out.next hbq)
              have hz5 := hb5.size
              simp only [World.size_alloc] at hz5
              have HKK := hk3
              clear hb5 hbq
              go_wp2_with fail
              -- the last region: what stands in the blocks bt, bt + 1 is answered. HAXq: these blocks; HFq: the frame; HAq: the tree
              refine wp_region_noPanic (wp_region_sd (fun B => B.heap[w5.heap.size]? = some (.cells #[.slice (some ⟨g, 0, none⟩) ts.length cap, .int .i64 (k3 : Int)] 46 (0, 0)) ∧ B.heap[w4.heap.size + 1]? = some (.cells #[.int .i64 xk, .int .i64 x1, .int .i64 x2, S x3, S xt, S xn, .int .i64 xo, .slice asv xa.length csv] 30 (0, 0))) ((.take 0 (.take 1 (.one 2 (.one 3 (.take 4 .done)))))) (by kernel_rfl) (by kernel_rfl) (by kernel_rfl) (fun _ _ _ _ _ h => h) (keep_two HAXq.out ((Bl.refl _).drew)) ?_) -- wp_region_sc 
              intro wd HWD hHeld
              refine sc_take' rfl (by rfl) (by intro w hSw; (try dsimp only at hSw); obtain ⟨a0, a1, -, -, -⟩ := cells2 hSw.1; obtain ⟨⟨e0, e1, e2, e3, e4, e5, e6, e7⟩, -⟩ := eight hSw.2; go_simp; (try (first | with_reducible rfl | rfl))) ?_; (try simp only [Act.put, List.setIfInBounds_toArray, List.set_cons_zero, List.set_cons_succ])
              refine sc_take' rfl (by rfl) (by intro w hSw; (try dsimp only at hSw); obtain ⟨a0, a1, -, -, -⟩ := cells2 hSw.1; obtain ⟨⟨e0, e1, e2, e3, e4, e5, e6, e7⟩, -⟩ := eight hSw.2; go_simp; (try (first | with_reducible rfl | rfl))) ?_; (try simp only [Act.put, List.setIfInBounds_toArray, List.set_cons_zero, List.set_cons_succ])
              obtain ⟨r0, r1, z0, z1, hlr⟩ := cells2 (HFq.out.next HWD.out).r
              refine sc_call' rfl (fun K hK => ?_); go_simp; refine hK.out _ _ ((keep_set2 (b := W.heap.size + 1) hHeld (by omega) (by omega))) (fun hHeld2 => ?_); clear hHeld hK K; have hHeld := hHeld2; clear hHeld2
              clear r0 r1 z0 z1
              obtain ⟨⟨e0, e1, e2, e3, e4, e5, e6, e7⟩, f0, f1, f2, f3, f4, f5, f6, f7⟩ := eight ((set2_other _ (b := W.heap.size + 1) (i := W.heap.size + 1 + 1) (by omega) (.slice (some ⟨g, 0, none⟩) ts.length cap) (.int .i64 (k3 : Int))).trans (HFq.out.next HWD.out).x)
              refine sc_call' rfl (fun K hK => ?_); go_simp; refine hK.out _ _ ((keep_set8 (b := W.heap.size + 1 + 1) hHeld (by omega) (by omega))) (fun hHeld2 => ?_); clear hHeld hK K; have hHeld := hHeld2; clear hHeld2
              refine sc_take' rfl (by rfl) (by intro w hSw; (try dsimp only at hSw); obtain ⟨a0, a1, -, -, -⟩ := cells2 hSw.1; obtain ⟨⟨e0, e1, e2, e3, e4, e5, e6, e7⟩, -⟩ := eight hSw.2; go_simp; (try (first | with_reducible rfl | rfl))) ?_; (try simp only [Act.put, List.setIfInBounds_toArray, List.set_cons_zero, List.set_cons_succ])
              refine sc_nil (NoPanic.normal ?_)
              go_wp2
              obtain ⟨⟨q0, q1⟩, q2, q3, q4, q5, q6, q7, q8, q9⟩ := fin_cells (b := W.heap.size + 1) (c := W.heap.size + 1 + 1) (by omega) (HFq.out.next HWD.out).r (HFq.out.next HWD.out).x (.slice (some ⟨g, 0, none⟩) ts.length cap) (.int .i64 (k3 : Int)) (.int .i64 xk) (.int .i64 x1) (.int .i64 x2) (S x3) (S xt) (S xn) (.int .i64 xo) (.slice asv xa.length csv)
              have hX : ReadsXP _ _ (.mk xk (x1, x2, x3) xt xn xo xa) (EV xk (x1, x2, x3) xt xn xo (.slice asv xa.length csv)) := ⟨_, rfl, HAq.out.bl HWD.out⟩
              exact bodyPost_ret (v := .tuple #[RS g ts.length cap k3, EV xk (x1, x2, x3) xt xn xo (.slice asv xa.length csv), .int .i64 0]) (by simp [results, Tryz.results66, go_sem, q0, q1, q2, q3, q4, q5, q6, q7, q8, q9]) rfl ⟨k3, _, _, 0, HKK.out, fin_readsP hX (fun i hi => ⟨by have := hi.1; omega, by have := hi.1; omega, by have := hi.1; omega⟩) _ _ _ _ _ _ _ _ _ _, rfl, fin_bl (HFq.out.next HWD.out).bl (by omega) (by omega) _ _ _ _ _ _ _ _ _ _, hSay.out⟩
            | none =>
              rw [h41] at hR3
              have hSay := Lib.hid (show Says R k' (.mk xk (x1, x2, x3) xt xn xo xa) 261 from .inr ⟨.inr rfl, hR3⟩)
              have HE5 := Lib.hid (takeEnd_none (g := g) (cap := cap) h41)
              clear hR3 h41
              go_wp2_with fail
              refine (rTake_made H.out (HFq.out.bl.alloc _) hfew HKK.out 1 [[41]] rfl (by simp) (heap_new' _ _ (by simp))).mono ?_
              rintro e w5 ⟨rfl, hb5⟩
              rw [HE5.out]
              have hbq := (((Bl.refl _).alloc _).call hb5).alloc (.cells #[.slice (some ⟨g, 0, none⟩) ts.length cap, .int .i64 (k' : Int)] 46)
              have HAXq := Lib.hid (keep_two HAXq.out hbq)
              have HAq := Lib.hid (HAq.out.bl hbq)
              have HFq := Lib.hid (HFq.out.next hbq)
              clear hb5 hbq
              go_wp2_with fail
              -- the last region: what stands in the blocks bt, bt + 1 is answered. HAXq: these blocks; HFq: the frame; HAq: the tree
              refine wp_region_noPanic (wp_region_sd (fun B => B.heap[w4.heap.size]? = some (.cells #[.slice (some ⟨g, 0, none⟩) ts.length cap, .int .i64 (k' : Int)] 46 (0, 0)) ∧ B.heap[w4.heap.size + 1]? = some (.cells #[.int .i64 xk, .int .i64 x1, .int .i64 x2, S x3, S xt, S xn, .int .i64 xo, .slice asv xa.length csv] 30 (0, 0))) ((.take 0 (.take 1 (.one 2 (.one 3 (.take 4 .done)))))) (by kernel_rfl) (by kernel_rfl) (by kernel_rfl) (fun _ _ _ _ _ h => h) (keep_two HAXq.out ((Bl.refl _).drew)) ?_) -- wp_region_sc 
              intro wd HWD hHeld
              refine sc_take' rfl (by rfl) (by intro w hSw; (try dsimp only at hSw); obtain ⟨a0, a1, -, -, -⟩ := cells2 hSw.1; obtain ⟨⟨e0, e1, e2, e3, e4, e5, e6, e7⟩, -⟩ := eight hSw.2; go_simp; (try (first | with_reducible rfl | rfl))) ?_; (try simp only [Act.put, List.setIfInBounds_toArray, List.set_cons_zero, List.set_cons_succ])
              refine sc_take' rfl (by rfl) (by intro w hSw; (try dsimp only at hSw); obtain ⟨a0, a1, -, -, -⟩ := cells2 hSw.1; obtain ⟨⟨e0, e1, e2, e3, e4, e5, e6, e7⟩, -⟩ := eight hSw.2; go_simp; (try (first | with_reducible rfl | rfl))) ?_; (try simp only [Act.put, List.setIfInBounds_toArray, List.set_cons_zero, List.set_cons_succ])
              obtain ⟨r0, r1, z0, z1, hlr⟩ := cells2 (HFq.out.next HWD.out).r
              refine sc_call' rfl (fun K hK => ?_); go_simp; refine hK.out _ _ ((keep_set2 (b := W.heap.size + 1) hHeld (by omega) (by omega))) (fun hHeld2 => ?_); clear hHeld hK K; have hHeld := hHeld2; clear hHeld2
              clear r0 r1 z0 z1
              obtain ⟨⟨e0, e1, e2, e3, e4, e5, e6, e7⟩, f0, f1, f2, f3, f4, f5, f6, f7⟩ := eight ((set2_other _ (b := W.heap.size + 1) (i := W.heap.size + 1 + 1) (by omega) (.slice (some ⟨g, 0, none⟩) ts.length cap) (.int .i64 (k' : Int))).trans (HFq.out.next HWD.out).x)
              refine sc_call' rfl (fun K hK => ?_); go_simp; refine hK.out _ _ ((keep_set8 (b := W.heap.size + 1 + 1) hHeld (by omega) (by omega))) (fun hHeld2 => ?_); clear hHeld hK K; have hHeld := hHeld2; clear hHeld2
              refine sc_take' rfl (by rfl) (by intro w hSw; (try dsimp only at hSw); obtain ⟨a0, a1, -, -, -⟩ := cells2 hSw.1; obtain ⟨⟨e0, e1, e2, e3, e4, e5, e6, e7⟩, -⟩ := eight hSw.2; go_simp; (try (first | with_reducible rfl | rfl))) ?_; (try simp only [Act.put, List.setIfInBounds_toArray, List.set_cons_zero, List.set_cons_succ])
              refine sc_nil (NoPanic.normal ?_)
              go_wp2
              obtain ⟨⟨q0, q1⟩, q2, q3, q4, q5, q6, q7, q8, q9⟩ := fin_cells (b := W.heap.size + 1) (c := W.heap.size + 1 + 1) (by omega) (HFq.out.next HWD.out).r (HFq.out.next HWD.out).x (.slice (some ⟨g, 0, none⟩) ts.length cap) (.int .i64 (k' : Int)) (.int .i64 xk) (.int .i64 x1) (.int .i64 x2) (S x3) (S xt) (S xn) (.int .i64 xo) (.slice asv xa.length csv)
              have hX : ReadsXP _ _ (.mk xk (x1, x2, x3) xt xn xo xa) (EV xk (x1, x2, x3) xt xn xo (.slice asv xa.length csv)) := ⟨_, rfl, HAq.out.bl HWD.out⟩
              exact bodyPost_ret (v := .tuple #[RS g ts.length cap k', EV xk (x1, x2, x3) xt xn xo (.slice asv xa.length csv), .int .i64 261]) (by simp [results, Tryz.results66, go_sem, q0, q1, q2, q3, q4, q5, q6, q7, q8, q9]) rfl ⟨k', _, _, 261, HKK.out, fin_readsP hX (fun i hi => ⟨by have := hi.1; omega, by have := hi.1; omega, by have := hi.1; omega⟩) _ _ _ _ _ _ _ _ _ _, rfl, fin_bl (HFq.out.next HWD.out).bl (by omega) (by omega) _ _ _ _ _ _ _ _ _ _, hSay.out⟩
          · have hcb : (c == 0) = false := by simpa using hc0
            have hcb' : (c != 0) = true := by simpa using hc0
            have hSay := Lib.hid (show Says R k' (.mk xk (x1, x2, x3) xt xn xo xa) c from by
              obtain ⟨h1, h2⟩ := HS.out.no hc0
              exact .inr ⟨h1, by rw [HR2.out, h2]; rfl⟩)
            clear HS
            go_wp2_with fail
            -- the last region: what stands in the blocks bt, bt + 1 is answered. HAXq: these blocks; HFq: the frame; HAq: the tree
            refine wp_region_noPanic (wp_region_sd (fun B => B.heap[w4.heap.size]? = some (.cells #[.slice (some ⟨g, 0, none⟩) ts.length cap, .int .i64 (k' : Int)] 46 (0, 0)) ∧ B.heap[w4.heap.size + 1]? = some (.cells #[.int .i64 xk, .int .i64 x1, .int .i64 x2, S x3, S xt, S xn, .int .i64 xo, .slice asv xa.length csv] 30 (0, 0))) ((.take 0 (.take 1 (.take 2 (.one 3 (.one 4 (.take 5 .done))))))) (by kernel_rfl) (by kernel_rfl) (by kernel_rfl) (fun _ _ _ _ _ h => h) (keep_two HAXq.out ((Bl.refl _).drew)) ?_) -- wp_region_sc 
            intro wd HWD hHeld
            refine sc_take' rfl (by rfl) (by intro w hSw; (try dsimp only at hSw); obtain ⟨a0, a1, -, -, -⟩ := cells2 hSw.1; obtain ⟨⟨e0, e1, e2, e3, e4, e5, e6, e7⟩, -⟩ := eight hSw.2; go_simp; (try (first | with_reducible rfl | rfl))) ?_; (try simp only [Act.put, List.setIfInBounds_toArray, List.set_cons_zero, List.set_cons_succ])
            refine sc_take' rfl (by rfl) (by intro w hSw; (try dsimp only at hSw); obtain ⟨a0, a1, -, -, -⟩ := cells2 hSw.1; obtain ⟨⟨e0, e1, e2, e3, e4, e5, e6, e7⟩, -⟩ := eight hSw.2; go_simp; (try (first | with_reducible rfl | rfl))) ?_; (try simp only [Act.put, List.setIfInBounds_toArray, List.set_cons_zero, List.set_cons_succ])
            refine sc_take' rfl (by rfl) (by intro w hSw; (try dsimp only at hSw); obtain ⟨a0, a1, -, -, -⟩ := cells2 hSw.1; obtain ⟨⟨e0, e1, e2, e3, e4, e5, e6, e7⟩, -⟩ := eight hSw.2; go_simp; (try (first | with_reducible rfl | rfl))) ?_; (try simp only [Act.put, List.setIfInBounds_toArray, List.set_cons_zero, List.set_cons_succ])
            obtain ⟨r0, r1, z0, z1, hlr⟩ := cells2 (HFq.out.next HWD.out).r
            refine sc_call' rfl (fun K hK => ?_); go_simp; refine hK.out _ _ ((keep_set2 (b := W.heap.size + 1) hHeld (by omega) (by omega))) (fun hHeld2 => ?_); clear hHeld hK K; have hHeld := hHeld2; clear hHeld2
            clear r0 r1 z0 z1
            obtain ⟨⟨e0, e1, e2, e3, e4, e5, e6, e7⟩, f0, f1, f2, f3, f4, f5, f6, f7⟩ := eight ((set2_other _ (b := W.heap.size + 1) (i := W.heap.size + 1 + 1) (by omega) (.slice (some ⟨g, 0, none⟩) ts.length cap) (.int .i64 (k' : Int))).trans (HFq.out.next HWD.out).x)
            refine sc_call' rfl (fun K hK => ?_); go_simp; refine hK.out _ _ ((keep_set8 (b := W.heap.size + 1 + 1) hHeld (by omega) (by omega))) (fun hHeld2 => ?_); clear hHeld hK K; have hHeld := hHeld2; clear hHeld2
            refine sc_take' rfl (by rfl) (by intro w hSw; (try dsimp only at hSw); obtain ⟨a0, a1, -, -, -⟩ := cells2 hSw.1; obtain ⟨⟨e0, e1, e2, e3, e4, e5, e6, e7⟩, -⟩ := eight hSw.2; go_simp; (try (first | with_reducible rfl | rfl))) ?_; (try simp only [Act.put, List.setIfInBounds_toArray, List.set_cons_zero, List.set_cons_succ])
            refine sc_nil (NoPanic.normal ?_)
            go_wp2
            obtain ⟨⟨q0, q1⟩, q2, q3, q4, q5, q6, q7, q8, q9⟩ := fin_cells (b := W.heap.size + 1) (c := W.heap.size + 1 + 1) (by omega) (HFq.out.next HWD.out).r (HFq.out.next HWD.out).x (.slice (some ⟨g, 0, none⟩) ts.length cap) (.int .i64 (k' : Int)) (.int .i64 xk) (.int .i64 x1) (.int .i64 x2) (S x3) (S xt) (S xn) (.int .i64 xo) (.slice asv xa.length csv)
            have hX : ReadsXP _ _ (.mk xk (x1, x2, x3) xt xn xo xa) (EV xk (x1, x2, x3) xt xn xo (.slice asv xa.length csv)) := ⟨_, rfl, HAq.out.bl HWD.out⟩
            exact bodyPost_ret (v := .tuple #[RS g ts.length cap k', EV xk (x1, x2, x3) xt xn xo (.slice asv xa.length csv), .int .i64 c]) (by simp [results, Tryz.results66, go_sem, q0, q1, q2, q3, q4, q5, q6, q7, q8, q9]) rfl ⟨k', _, _, c, HKK.out, fin_readsP hX (fun i hi => ⟨by have := hi.1; omega, by have := hi.1; omega, by have := hi.1; omega⟩) _ _ _ _ _ _ _ _ _ _, rfl, fin_bl (HFq.out.next HWD.out).bl (by omega) (by omega) _ _ _ _ _ _ _ _ _ _, hSay.out⟩
          --ENDSLOW2
        | none =>
          rw [h40] at hR2
          simp only at hR2
          have HE := Lib.hid (takeEnd_none (g := g) (cap := cap) h40)
          clear h40
          cases hn1 : isName1 ⟨tk, tp, tt, (ta, tb, tc)⟩ with
          | false =>
            have hnm : nameK ts k = none := by unfold nameK; rw [HX.out]; simp only; rw [hn1]; rfl
            rw [hnm] at hR2
            have hSay := Lib.hid (show Says R k zeroE 261 from .inr ⟨.inr rfl, hR2⟩)
            have HKK := HK
            clear hR2 hnm
            go_wp2_with fail
            refine (rTake_made H.out (HFw.out.bl.alloc _) hfew HK.out 1 [[40]] rfl (by simp) (heap_new _ _)).mono ?_
            rintro e w3 ⟨rfl, hb3⟩
            rw [HE.out]
            have HF3 := Lib.hid (HFw.out.next ((((Bl.refl _).alloc _).call hb3).alloc (.cells #[.slice (some ⟨g, 0, none⟩) ts.length cap, .int .i64 (k : Int)] 46)))
            clear hb3 s0 s1
            obtain ⟨s0, s1, -, -, -⟩ := cells2 HF3.out.s
            go_wp2_with fail
            (with_reducible refine (rName_any (H.out.bl HF3.out.bl) hfew HX.out).mono ?_)
            rintro e w4 ⟨hb4, ⟨hy, -⟩ | ⟨-, rfl⟩⟩
            · rw [hn1] at hy; cases hy
            have HFq := Lib.hid (HF3.out.next (hb4.alloc (.cells #[.slice (some ⟨g, 0, none⟩) ts.length cap, .int .i64 (k : Int)] 46)))
            clear hb4 s0 s1 hn1
            obtain ⟨s0, s1, -, -, -⟩ := cells2 HFq.out.s
            obtain ⟨r0, r1, z0, z1, hlr⟩ := cells2 HFq.out.r
            obtain ⟨⟨e0, e1, e2, e3, e4, e5, e6, e7⟩, f0, f1, f2, f3, f4, f5, f6, f7⟩ := eight HFq.out.x
            go_wp2
            -- the end of a way that answers with an expression without arguments; w: the world ahead of the stores, F: its frame
            obtain ⟨⟨q0, q1⟩, q2, q3, q4, q5, q6, q7, q8, q9⟩ := fin_cells (b := W.heap.size + 1) (c := W.heap.size + 1 + 1) (by omega) HFq.out.r HFq.out.x (.slice (some ⟨g, 0, none⟩) ts.length cap) (.int .i64 (k : Int)) (.int .i64 0) (.int .i64 0) (.int .i64 0) (S []) (S []) (S []) (.int .i64 0) (.slice none 0 0)
            exact bodyPost_ret (v := .tuple #[RS g ts.length cap k, EV 0 (0, 0, []) [] [] 0 (.slice none 0 0), .int .i64 261]) (by simp [results, Tryz.results66, go_sem, q0, q1, q2, q3, q4, q5, q6, q7, q8, q9]) rfl ⟨k, .mk 0 (0, 0, []) [] [] 0 [], _, 261, HKK.out, ⟨_, rfl, ReadsP.nil _ _ none 0⟩, rfl, fin_bl HFq.out.bl (by omega) (by omega) _ _ _ _ _ _ _ _ _ _, hSay.out⟩
          | true =>
            have hnm : nameK ts k = some (tt, nextK ts.length k) := by unfold nameK; rw [HX.out]; simp only; rw [hn1]; rfl
            rw [hnm] at hR2
            simp only at hR2
            have HN1 := Lib.hid hn1
            have hk1 := Lib.hid (nextK_lt HK.out)
            clear hnm hn1
            cases h2 : takeK ts (nextK ts.length k) [[40]] with
            | some k2 =>
              rw [h2] at hR2
              simp only at hR2
              have HE2 := Lib.hid (takeEnd_some (g := g) (cap := cap) h2)
              have hk2 := Lib.hid (take1_le HT.out hk1.out h2).2
              have HR2 := Lib.hid hR2
              have HN := Lib.hid (show calledR ts (runR ts f) tt k2 d ≠ .out from by rw [← hR2]; exact HNE.out)
              clear hR2 h2
              have HE := HE
              go_wp2_with fail
              refine (rTake_made H.out (HFw.out.bl.alloc _) hfew HK.out 1 [[40]] rfl (by simp) (heap_new _ _)).mono ?_
              rintro e w3 ⟨rfl, hb3⟩
              rw [HE.out]
              have HF3 := Lib.hid (HFw.out.next ((((Bl.refl _).alloc _).call hb3).alloc (.cells #[.slice (some ⟨g, 0, none⟩) ts.length cap, .int .i64 (k : Int)] 46)))
              clear hb3 s0 s1
              obtain ⟨s0, s1, -, -, -⟩ := cells2 HF3.out.s
              go_wp2_with fail
              (with_reducible refine (rName_any (H.out.bl HF3.out.bl) hfew HX.out).mono ?_)
              rintro e w4 ⟨hb4, ⟨-, rfl⟩ | ⟨hy, -⟩⟩
              case inr => rw [HN1.out] at hy; cases hy
              have HF4 := Lib.hid (HF3.out.next (hb4.alloc (.cells #[.slice (some ⟨g, 0, none⟩) ts.length cap, .int .i64 (nextK ts.length k : Int)] 46)))
              clear hb4 s0 s1
              go_wp2_with fail
              refine (rTake_made H.out (HF4.out.bl.alloc _) hfew hk1.out 1 [[40]] rfl (by simp) (heap_new' _ _ (by simp))).mono ?_
              rintro e w5 ⟨rfl, hb5⟩
              rw [HE2.out]
              have HF5 := Lib.hid (HF4.out.next (((Bl.refl _).alloc _).call hb5))
              clear hb5
              go_wp2_with fail
              refine (HC.out _ g cap ts tt k2 d (H.out.bl (HF5.out.bl.alloc _)) HT.out hfew hk2.out hd HN.out).mono ?_
              rintro e w2 ⟨k', x, v, c, hk', ⟨sv, rfl, hA⟩, rfl, hb2, hs⟩
              have HF1 := HF5
              obtain ⟨s0, s1, -, -, -⟩ := cells2 HF5.out.s
              -- an answer is handed on: k', x, sv, c in world w2 (hA, hb2, hs, hk'; the frame HF1)
              have HF2 := Lib.hid (HF1.out.next (((Bl.refl _).alloc _).call hb2))
              have hz2 := HF1.out.size
              obtain ⟨xk, ⟨x1, x2, x3⟩, xt, xn, xo, xa⟩ := x
              obtain ⟨asv, csv, rfl⟩ := hA.shape
              simp only [Ex.k, Ex.v, Ex.t, Ex.n, Ex.o, Ex.args] at hA ⊢
              have HR := Lib.hid (And.intro hk' (And.intro (show ReadsX (W.heap.size + 3) w2 (.mk xk (x1, x2, x3) xt xn xo xa) (EV xk (x1, x2, x3) xt xn xo (.slice asv xa.length csv)) from ⟨_, rfl, ReadsA.low hA (by rw [World.size_alloc]; omega)⟩) hs))
              obtain ⟨r0, r1, z0, z1, hlr⟩ := cells2 HF2.out.r
              obtain ⟨⟨e0, e1, e2, e3, e4, e5, e6, e7⟩, f0, f1, f2, f3, f4, f5, f6, f7⟩ := eight HF2.out.x
              clear hb2 hA hs hk' s0 s1
              go_wp2
              obtain ⟨⟨q0, q1⟩, q2, q3, q4, q5, q6, q7, q8, q9⟩ := fin_cells (b := W.heap.size + 1) (c := W.heap.size + 1 + 1) (by omega) HF2.out.r HF2.out.x (.slice (some ⟨g, 0, none⟩) ts.length cap) (.int .i64 (k' : Int)) (.int .i64 xk) (.int .i64 x1) (.int .i64 x2) (S x3) (S xt) (S xn) (.int .i64 xo) (.slice asv xa.length csv)
              exact bodyPost_ret (v := .tuple #[RS g ts.length cap k', EV xk (x1, x2, x3) xt xn xo (.slice asv xa.length csv), .int .i64 c]) (by simp [results, Tryz.results66, go_sem, q0, q1, q2, q3, q4, q5, q6, q7, q8, q9]) rfl ⟨k', _, _, c, HR.out.1, fin_reads HR.out.2.1 (by omega) (by omega) (by omega) _ _ _ _ _ _ _ _ _ _, rfl, fin_bl HF2.out.bl (by omega) (by omega) _ _ _ _ _ _ _ _ _ _, by rw [HR2.out]; exact HR.out.2.2⟩
            | none =>
              rw [h2] at hR2
              simp only at hR2
              have HE2 := Lib.hid (takeEnd_none (g := g) (cap := cap) h2)
              clear h2
              cases h46 : takeK ts (nextK ts.length k) [[46]] with
              | none =>
                rw [h46] at hR2
                have hSay := Lib.hid (show Says R (nextK ts.length k) (colE [] tt) 0 from .inl ⟨rfl, hR2⟩)
                have HE4 := Lib.hid (takeEnd_none (g := g) (cap := cap) h46)
                have HKK := hk1
                clear hR2 h46
                have HE := HE
                go_wp2_with fail
                refine (rTake_made H.out (HFw.out.bl.alloc _) hfew HK.out 1 [[40]] rfl (by simp) (heap_new _ _)).mono ?_
                rintro e w3 ⟨rfl, hb3⟩
                rw [HE.out]
                have HF3 := Lib.hid (HFw.out.next ((((Bl.refl _).alloc _).call hb3).alloc (.cells #[.slice (some ⟨g, 0, none⟩) ts.length cap, .int .i64 (k : Int)] 46)))
                clear hb3 s0 s1
                obtain ⟨s0, s1, -, -, -⟩ := cells2 HF3.out.s
                go_wp2_with fail
                (with_reducible refine (rName_any (H.out.bl HF3.out.bl) hfew HX.out).mono ?_)
                rintro e w4 ⟨hb4, ⟨-, rfl⟩ | ⟨hy, -⟩⟩
                case inr => rw [HN1.out] at hy; cases hy
                have HF4 := Lib.hid (HF3.out.next (hb4.alloc (.cells #[.slice (some ⟨g, 0, none⟩) ts.length cap, .int .i64 (nextK ts.length k : Int)] 46)))
                clear hb4 s0 s1
                go_wp2_with fail
                refine (rTake_made H.out (HF4.out.bl.alloc _) hfew hk1.out 1 [[40]] rfl (by simp) (heap_new' _ _ (by simp))).mono ?_
                rintro e w5 ⟨rfl, hb5⟩
                rw [HE2.out]
                have h18 : w5.heap[w4.heap.size]? = some (.cells #[.slice (some ⟨g, 0, none⟩) ts.length cap, .int .i64 (nextK ts.length k : Int)] 46 (0, 0)) := (hb5.block _ (by simp only [World.size_alloc]; omega)).trans ((heap_old _ _ (by simp)).trans (heap_new w4 _))
                have hbq := (((Bl.refl _).alloc _).call hb5).alloc (.cells #[.slice (some ⟨g, 0, none⟩) ts.length cap, .int .i64 (nextK ts.length k : Int)] 46)
                have HF5 := Lib.hid (HF4.out.next hbq)
                have H18 := Lib.hid ((heap_old w5 (.cells #[.slice (some ⟨g, 0, none⟩) ts.length cap, .int .i64 (nextK ts.length k : Int)] 46) (Array.getElem?_eq_some_iff.1 h18).1).trans h18)
                obtain ⟨t0, t1, -, -, -⟩ := cells2 H18.out
                clear hb5 hbq h18
                go_wp2_with fail
                refine (rTake_made H.out (HF5.out.bl.alloc _) hfew hk1.out 1 [[46]] rfl (by simp) (heap_new' _ _ (by simp))).mono ?_
                rintro e w6 ⟨rfl, hb6⟩
                rw [HE4.out]
                have hbq := (((Bl.refl _).alloc _).call hb6).alloc (.cells #[.slice (some ⟨g, 0, none⟩) ts.length cap, .int .i64 (nextK ts.length k : Int)] 46)
                have HFq := Lib.hid (HF5.out.next hbq)
                have H18 := Lib.hid ((hbq.block _ (Array.getElem?_eq_some_iff.1 H18.out).1).trans H18.out)
                have hz6 := HFq.out.size
                clear hb6 hbq t0 t1
                obtain ⟨t0, t1, -, -, -⟩ := cells2 H18.out
                obtain ⟨s0, s1, -, -, -⟩ := cells2 HFq.out.s
                obtain ⟨r0, r1, z0, z1, hlr⟩ := cells2 HFq.out.r
                obtain ⟨⟨e0, e1, e2, e3, e4, e5, e6, e7⟩, f0, f1, f2, f3, f4, f5, f6, f7⟩ := eight HFq.out.x
                go_wp2
                -- the end of a way that answers with an expression without arguments; w: the world ahead of the stores, F: its frame
                obtain ⟨⟨q0, q1⟩, q2, q3, q4, q5, q6, q7, q8, q9⟩ := fin_cells (b := W.heap.size + 1) (c := W.heap.size + 1 + 1) (by omega) HFq.out.r HFq.out.x (.slice (some ⟨g, 0, none⟩) ts.length cap) (.int .i64 ((nextK ts.length k) : Int)) (.int .i64 2) (.int .i64 0) (.int .i64 0) (S []) (S []) (S tt) (.int .i64 0) (.slice none 0 0)
                exact bodyPost_ret (v := .tuple #[RS g ts.length cap (nextK ts.length k), EV 2 (0, 0, []) [] tt 0 (.slice none 0 0), .int .i64 0]) (by simp [results, Tryz.results66, go_sem, q0, q1, q2, q3, q4, q5, q6, q7, q8, q9]) rfl ⟨(nextK ts.length k), .mk 2 (0, 0, []) [] tt 0 [], _, 0, HKK.out, ⟨_, rfl, ReadsP.nil _ _ none 0⟩, rfl, fin_bl HFq.out.bl (by omega) (by omega) _ _ _ _ _ _ _ _ _ _, hSay.out⟩
              | some k3 =>
                rw [h46] at hR2
                simp only at hR2
                have HE4 := Lib.hid (takeEnd_some (g := g) (cap := cap) h46)
                have hk3 := Lib.hid (take1_le HT.out hk1.out h46).2
                clear h46
                obtain ⟨x2, hx2⟩ : ∃ x2, ts[k3]? = some x2 := ⟨_, List.getElem?_eq_getElem hk3.out⟩
                have HX2 := Lib.hid hx2
                have hnm2 : nameK ts k3 = if isName1 x2 then some (x2.t, nextK ts.length k3) else none := by unfold nameK; rw [hx2]
                rw [hnm2] at hR2
                clear hnm2 hx2
                cases hn3 : isName1 x2 with
                | true =>
                  rw [hn3] at hR2
                  have hSay := Lib.hid (show Says R (nextK ts.length k3) (colE tt x2.t) 0 from .inl ⟨rfl, hR2⟩)
                  have HN3 := Lib.hid hn3
                  have HKK := Lib.hid (nextK_lt hk3.out)
                  clear hR2 hn3
                  have HE := HE
                  go_wp2_with fail
                  refine (rTake_made H.out (HFw.out.bl.alloc _) hfew HK.out 1 [[40]] rfl (by simp) (heap_new _ _)).mono ?_
                  rintro e w3 ⟨rfl, hb3⟩
                  rw [HE.out]
                  have HF3 := Lib.hid (HFw.out.next ((((Bl.refl _).alloc _).call hb3).alloc (.cells #[.slice (some ⟨g, 0, none⟩) ts.length cap, .int .i64 (k : Int)] 46)))
                  clear hb3 s0 s1
                  obtain ⟨s0, s1, -, -, -⟩ := cells2 HF3.out.s
                  go_wp2_with fail
                  (with_reducible refine (rName_any (H.out.bl HF3.out.bl) hfew HX.out).mono ?_)
                  rintro e w4 ⟨hb4, ⟨-, rfl⟩ | ⟨hy, -⟩⟩
                  case inr => rw [HN1.out] at hy; cases hy
                  have HF4 := Lib.hid (HF3.out.next (hb4.alloc (.cells #[.slice (some ⟨g, 0, none⟩) ts.length cap, .int .i64 (nextK ts.length k : Int)] 46)))
                  clear hb4 s0 s1
                  go_wp2_with fail
                  refine (rTake_made H.out (HF4.out.bl.alloc _) hfew hk1.out 1 [[40]] rfl (by simp) (heap_new' _ _ (by simp))).mono ?_
                  rintro e w5 ⟨rfl, hb5⟩
                  rw [HE2.out]
                  have h18 : w5.heap[w4.heap.size]? = some (.cells #[.slice (some ⟨g, 0, none⟩) ts.length cap, .int .i64 (nextK ts.length k : Int)] 46 (0, 0)) := (hb5.block _ (by simp only [World.size_alloc]; omega)).trans ((heap_old _ _ (by simp)).trans (heap_new w4 _))
                  have hbq := (((Bl.refl _).alloc _).call hb5).alloc (.cells #[.slice (some ⟨g, 0, none⟩) ts.length cap, .int .i64 (nextK ts.length k : Int)] 46)
                  have HF5 := Lib.hid (HF4.out.next hbq)
                  have H18 := Lib.hid ((heap_old w5 (.cells #[.slice (some ⟨g, 0, none⟩) ts.length cap, .int .i64 (nextK ts.length k : Int)] 46) (Array.getElem?_eq_some_iff.1 h18).1).trans h18)
                  obtain ⟨t0, t1, -, -, -⟩ := cells2 H18.out
                  clear hb5 hbq h18
                  go_wp2_with fail
                  refine (rTake_made H.out (HF5.out.bl.alloc _) hfew hk1.out 1 [[46]] rfl (by simp) (heap_new' _ _ (by simp))).mono ?_
                  rintro e w6 ⟨rfl, hb6⟩
                  rw [HE4.out]
                  have HF6 := Lib.hid (HF5.out.next ((((Bl.refl _).alloc _).call hb6).alloc (.cells #[.slice (some ⟨g, 0, none⟩) ts.length cap, .int .i64 (k3 : Int)] 46)))
                  clear hb6 t0 t1
                  go_wp2_with fail
                  (with_reducible refine (rName_any (H.out.bl HF6.out.bl) hfew HX2.out).mono ?_)
                  rintro e w7 ⟨hb7, ⟨-, rfl⟩ | ⟨hy, -⟩⟩
                  case inr => rw [HN3.out] at hy; cases hy
                  have HFq := Lib.hid (HF6.out.next (hb7.alloc (.cells #[.slice (some ⟨g, 0, none⟩) ts.length cap, .int .i64 (nextK ts.length k3 : Int)] 46)))
                  have hz7 := HFq.out.size
                  clear hb7
                  obtain ⟨s0, s1, -, -, -⟩ := cells2 HFq.out.s
                  obtain ⟨r0, r1, z0, z1, hlr⟩ := cells2 HFq.out.r
                  obtain ⟨⟨e0, e1, e2, e3, e4, e5, e6, e7⟩, f0, f1, f2, f3, f4, f5, f6, f7⟩ := eight HFq.out.x
                  go_wp2
                  -- the end of a way that answers with an expression without arguments; w: the world ahead of the stores, F: its frame
                  obtain ⟨⟨q0, q1⟩, q2, q3, q4, q5, q6, q7, q8, q9⟩ := fin_cells (b := W.heap.size + 1) (c := W.heap.size + 1 + 1) (by omega) HFq.out.r HFq.out.x (.slice (some ⟨g, 0, none⟩) ts.length cap) (.int .i64 ((nextK ts.length k3) : Int)) (.int .i64 2) (.int .i64 0) (.int .i64 0) (S []) (S tt) (S x2.t) (.int .i64 0) (.slice none 0 0)
                  exact bodyPost_ret (v := .tuple #[RS g ts.length cap (nextK ts.length k3), EV 2 (0, 0, []) tt x2.t 0 (.slice none 0 0), .int .i64 0]) (by simp [results, Tryz.results66, go_sem, q0, q1, q2, q3, q4, q5, q6, q7, q8, q9]) rfl ⟨(nextK ts.length k3), .mk 2 (0, 0, []) tt x2.t 0 [], _, 0, HKK.out, ⟨_, rfl, ReadsP.nil _ _ none 0⟩, rfl, fin_bl HFq.out.bl (by omega) (by omega) _ _ _ _ _ _ _ _ _ _, hSay.out⟩
                | false =>
                  rw [hn3] at hR2
                  have hSay := Lib.hid (show Says R k3 zeroE 261 from .inr ⟨.inr rfl, hR2⟩)
                  have HN3 := Lib.hid hn3
                  have HKK := hk3
                  clear hR2 hn3
                  have HE := HE
                  go_wp2_with fail
                  refine (rTake_made H.out (HFw.out.bl.alloc _) hfew HK.out 1 [[40]] rfl (by simp) (heap_new _ _)).mono ?_
                  rintro e w3 ⟨rfl, hb3⟩
                  rw [HE.out]
                  have HF3 := Lib.hid (HFw.out.next ((((Bl.refl _).alloc _).call hb3).alloc (.cells #[.slice (some ⟨g, 0, none⟩) ts.length cap, .int .i64 (k : Int)] 46)))
                  clear hb3 s0 s1
                  obtain ⟨s0, s1, -, -, -⟩ := cells2 HF3.out.s
                  go_wp2_with fail
                  (with_reducible refine (rName_any (H.out.bl HF3.out.bl) hfew HX.out).mono ?_)
                  rintro e w4 ⟨hb4, ⟨-, rfl⟩ | ⟨hy, -⟩⟩
                  case inr => rw [HN1.out] at hy; cases hy
                  have HF4 := Lib.hid (HF3.out.next (hb4.alloc (.cells #[.slice (some ⟨g, 0, none⟩) ts.length cap, .int .i64 (nextK ts.length k : Int)] 46)))
                  clear hb4 s0 s1
                  go_wp2_with fail
                  refine (rTake_made H.out (HF4.out.bl.alloc _) hfew hk1.out 1 [[40]] rfl (by simp) (heap_new' _ _ (by simp))).mono ?_
                  rintro e w5 ⟨rfl, hb5⟩
                  rw [HE2.out]
                  have h18 : w5.heap[w4.heap.size]? = some (.cells #[.slice (some ⟨g, 0, none⟩) ts.length cap, .int .i64 (nextK ts.length k : Int)] 46 (0, 0)) := (hb5.block _ (by simp only [World.size_alloc]; omega)).trans ((heap_old _ _ (by simp)).trans (heap_new w4 _))
                  have hbq := (((Bl.refl _).alloc _).call hb5).alloc (.cells #[.slice (some ⟨g, 0, none⟩) ts.length cap, .int .i64 (nextK ts.length k : Int)] 46)
                  have HF5 := Lib.hid (HF4.out.next hbq)
                  have H18 := Lib.hid ((heap_old w5 (.cells #[.slice (some ⟨g, 0, none⟩) ts.length cap, .int .i64 (nextK ts.length k : Int)] 46) (Array.getElem?_eq_some_iff.1 h18).1).trans h18)
                  obtain ⟨t0, t1, -, -, -⟩ := cells2 H18.out
                  clear hb5 hbq h18
                  go_wp2_with fail
                  refine (rTake_made H.out (HF5.out.bl.alloc _) hfew hk1.out 1 [[46]] rfl (by simp) (heap_new' _ _ (by simp))).mono ?_
                  rintro e w6 ⟨rfl, hb6⟩
                  rw [HE4.out]
                  have HF6 := Lib.hid (HF5.out.next ((((Bl.refl _).alloc _).call hb6).alloc (.cells #[.slice (some ⟨g, 0, none⟩) ts.length cap, .int .i64 (k3 : Int)] 46)))
                  have h23 := heap_new w6 (.cells #[.slice (some ⟨g, 0, none⟩) ts.length cap, .int .i64 (k3 : Int)] 46)
                  clear hb6 t0 t1
                  go_wp2_with fail
                  (with_reducible refine (rName_any (H.out.bl HF6.out.bl) hfew HX2.out).mono ?_)
                  rintro e w7 ⟨hb7, ⟨hy, -⟩ | ⟨-, rfl⟩⟩
                  case inl => rw [HN3.out] at hy; cases hy
                  have hbq := hb7.alloc (.cells #[.slice (some ⟨g, 0, none⟩) ts.length cap, .int .i64 (k3 : Int)] 46)
                  have HFq := Lib.hid (HF6.out.next hbq)
                  have hz7 := HFq.out.size
                  obtain ⟨t0, t1, -, -, -⟩ := cells2 ((hbq.block _ (Array.getElem?_eq_some_iff.1 h23).1).trans h23)
                  clear hb7 hbq h23
                  obtain ⟨s0, s1, -, -, -⟩ := cells2 HFq.out.s
                  obtain ⟨r0, r1, z0, z1, hlr⟩ := cells2 HFq.out.r
                  obtain ⟨⟨e0, e1, e2, e3, e4, e5, e6, e7⟩, f0, f1, f2, f3, f4, f5, f6, f7⟩ := eight HFq.out.x
                  go_wp2
                  -- the end of a way that answers with an expression without arguments; w: the world ahead of the stores, F: its frame
                  obtain ⟨⟨q0, q1⟩, q2, q3, q4, q5, q6, q7, q8, q9⟩ := fin_cells (b := W.heap.size + 1) (c := W.heap.size + 1 + 1) (by omega) HFq.out.r HFq.out.x (.slice (some ⟨g, 0, none⟩) ts.length cap) (.int .i64 (k3 : Int)) (.int .i64 0) (.int .i64 0) (.int .i64 0) (S []) (S []) (S []) (.int .i64 0) (.slice none 0 0)
                  exact bodyPost_ret (v := .tuple #[RS g ts.length cap k3, EV 0 (0, 0, []) [] [] 0 (.slice none 0 0), .int .i64 261]) (by simp [results, Tryz.results66, go_sem, q0, q1, q2, q3, q4, q5, q6, q7, q8, q9]) rfl ⟨k3, .mk 0 (0, 0, []) [] [] 0 [], _, 261, HKK.out, ⟨_, rfl, ReadsP.nil _ _ none 0⟩, rfl, fin_bl HFq.out.bl (by omega) (by omega) _ _ _ _ _ _ _ _ _ _, hSay.out⟩
--END1

end Go.Proofs.YtepkfkfedmbmnaaGreatDoor
