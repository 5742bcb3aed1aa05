/- The reference's read: a comparison. -/
import Derived.Test.YtepkfkfedmbmnaaGreatDoorMC
namespace Go.Proofs.YtepkfkfedmbmnaaGreatDoor
open Go.RowKit
set_option maxRecDepth 100000

--BEGIN1
set_option maxHeartbeats 8000000 in
theorem xread_3 {f : Nat} (IH : ∀ f', f' ≤ f → AllR f') {W : World} {g cap : Nat} {ts : List Tok} {k d : Nat} (h : Row W g ts) (hT : TokOK ts) (hfew : ts.length ≤ 100000) (hk : k < ts.length) (hd : d ≤ 60) (hne : stepR ts (runR ts f) (.rd 3 k d) ≠ .out) :
    Calls Tryz.prog 38 #[RS g ts.length cap k, .int .i64 3, .int .i64 (d : Int)] W (RPost g cap ts W (stepR ts (runR ts f) (.rd 3 k d))) := by
  have H := Lib.hid h
  have HI := Lib.hid IH
  have HK := Lib.hid hk
  have HT := Lib.hid hT
  clear h IH hk hT
  have hd1 : (d : Int) ≤ 60 := by omega
  have HF0 := Lib.hid (FrR.start W g ts.length cap k)
  rw [step_3] at hne ⊢
  obtain ⟨R, HR0⟩ : ∃ R, Hid (R = cmpR ts (runR ts f) k d) := ⟨_, rfl⟩
  rw [← HR0.out] at hne ⊢
  have HNE := Lib.hid hne
  have hne1 : runR ts f (.rd 4 k d) ≠ .out := bind_out (by rw [HR0.out] at hne; exact hne)
  have HN1 := Lib.hid hne1
  clear hne hne1
  go_enter Tryz.func38, Tryz.ntmps38
  go_wp2_with fail
  refine (HI.out f (Nat.le_refl _) _ g cap ts 4 k d 4 d rfl rfl (H.out.bl HF0.out.bl) HT.out hfew HK.out (by omega) (by omega) (by rw [rdR_same _ _ _ _ _ hd]; exact HN1.out)).mono ?_
  rw [rdR_same _ _ _ _ _ hd]
  rintro e w2 ⟨k', x, v, c, hk', ⟨sv, rfl, hA⟩, rfl, hb2, hs⟩
  have HF2 := Lib.hid (HF0.out.next hb2)
  obtain ⟨xk, ⟨x1, x2, x3⟩, xt, xn, xo, xa⟩ := x
  obtain ⟨asv, csv, rfl⟩ := hA.shape
  simp only [Ex.k, Ex.v, Ex.t, Ex.n, Ex.o, Ex.args] at hA ⊢
  have HA := Lib.hid (show ReadsP (fun b => W.heap.size + 3 ≤ b ∧ b ≠ w2.heap.size ∧ b ≠ w2.heap.size + 1) w2 (.slice asv xa.length csv) xa from hA.of fun b hl (hb : _ ≤ b) => ⟨by simp at hb; omega, by omega, by omega⟩)
  have HS := Lib.hid hs
  have hz2 := HF2.out.size
  clear hb2 hA hs
  have HAX2 := Lib.hid (show ((w2.alloc (.cells #[.slice (some ⟨g, 0, none⟩) ts.length cap, .int .i64 (k' : Int)] 46)).alloc (.cells #[.int .i64 xk, .int .i64 x1, .int .i64 x2, S x3, S xt, S xn, .int .i64 xo, .slice asv xa.length csv] 30)).heap[w2.heap.size]? = some (.cells #[.slice (some ⟨g, 0, none⟩) ts.length cap, .int .i64 (k' : Int)] 46 (0, 0)) ∧ ((w2.alloc (.cells #[.slice (some ⟨g, 0, none⟩) ts.length cap, .int .i64 (k' : Int)] 46)).alloc (.cells #[.int .i64 xk, .int .i64 x1, .int .i64 x2, S x3, S xt, S xn, .int .i64 xo, .slice asv xa.length csv] 30)).heap[w2.heap.size + 1]? = some (.cells #[.int .i64 xk, .int .i64 x1, .int .i64 x2, S x3, S xt, S xn, .int .i64 xo, .slice asv xa.length csv] 30 (0, 0)) from ⟨(heap_old _ _ (by simp)).trans (heap_new w2 _), heap_new' _ _ (by simp)⟩)
  go_wp2_with fail
  go_loopw [21] (fun no wr => no = .int .i64 c ∧ Hid (FrR W wr g ts.length cap k) ∧
      Hid (wr.heap[w2.heap.size]? = some (.cells #[.slice (some ⟨g, 0, none⟩) ts.length cap, .int .i64 (k' : Int)] 46 (0, 0)) ∧ wr.heap[w2.heap.size + 1]? = some (.cells #[.int .i64 xk, .int .i64 x1, .int .i64 x2, S x3, S xt, S xn, .int .i64 xo, .slice asv xa.length csv] 30 (0, 0))) ∧
      Hid (ReadsP (fun b => W.heap.size + 3 ≤ b ∧ b ≠ w2.heap.size ∧ b ≠ w2.heap.size + 1) wr (.slice asv xa.length csv) xa)) (fun _ _ => 0)
  case atStart => exact ⟨rfl, HF2.out.next (((Bl.refl _).alloc _).alloc _), HAX2.out, HA.out.bl (((Bl.refl _).alloc _).alloc _)⟩
  case round =>
    clear HA HAX2 HN1
    obtain ⟨rfl, HFq, HAXq, HAq⟩ := hrel
    have HKK := Lib.hid hk'
    have hzq := HFq.out.size
    by_cases hc0 : c = 0
    · subst hc0
      have hRf : R = (match takenK ts k' (levelOps 3) with
        | some (o, k2) => (runR ts f (.rd 4 k2 d)).bind fun k3 y => .good k3 (opE o [.mk xk (x1, x2, x3) xt xn xo xa, y])
        | none => match takeK ts k' [sIs, sNull] with
          | some k2 => .good k2 (opE 17 [.mk xk (x1, x2, x3) xt xn xo xa])
          | none => match takeK ts k' [sIs, sNot, sNull] with
            | some k2 => .good k2 (opE 18 [.mk xk (x1, x2, x3) xt xn xo xa])
            | none => .good k' (.mk xk (x1, x2, x3) xt xn xo xa)) := by
        rw [HR0.out]
        unfold cmpR
        rw [HS.out.yes]
        rfl
      clear HS
      obtain ⟨a0, a1, -, -, -⟩ := cells2 HAXq.out.1
      cases ht : takenK ts k' (levelOps 3) with
      | none =>
        rw [ht] at hRf
        have HE := Lib.hid (takenEnd_none (g := g) (cap := cap) ht)
        clear ht hk'
        cases h17 : takeK ts k' [sIs, sNull] with
        | some k7 =>
          rw [h17] at hRf
          have HKK7 := takeK_le HT.out HKK.out h17
          have hSay := Lib.hid (show Says R k7 (opE 17 [.mk xk (x1, x2, x3) xt xn xo xa]) 0 from .inl ⟨rfl, hRf⟩)
          have HE7 := Lib.hid (takeEnd_some (g := g) (cap := cap) h17)
          clear hRf h17
          go_wp2_with fail
          refine (xtaken_any (n := 3) (H.out.bl HFq.out.bl) hfew HKK.out (by omega)).mono ?_
          rintro e w3 ⟨rfl, hb3⟩
          rw [HE.out]
          have hbq := hb3.alloc (.cells #[.slice (some ⟨g, 0, none⟩) ts.length cap, .int .i64 (k' : Int)] 46)
          have HAXq := Lib.hid (keep_two HAXq.out hbq)
          have HAq := Lib.hid (HAq.out.bl hbq)
          have HFq := Lib.hid (HFq.out.next hbq)
          have hz3 := hb3.size
          clear a0 a1 hb3 hbq
          obtain ⟨a0, a1, -, -, -⟩ := cells2 HAXq.out.1
          go_wp2_with fail
          refine (rTake_made H.out (HFq.out.bl.alloc _) hfew HKK.out 2 [sIs, sNull] rfl (by simp) (heap_new' _ _ (by simp))).mono ?_
          rintro e w4 ⟨rfl, hb4⟩
          rw [HE7.out]
          have hbq := (((Bl.refl _).alloc _).call hb4).alloc (.cells #[.slice (some ⟨g, 0, none⟩) ts.length cap, .int .i64 (k7 : Int)] 46)
          have HAXq := Lib.hid (And.intro (heap_new w4 (.cells #[.slice (some ⟨g, 0, none⟩) ts.length cap, .int .i64 (k7 : Int)] 46)) (keep_two HAXq.out hbq).2)
          have HAq := Lib.hid (HAq.out.bl hbq)
          have HFq := Lib.hid (HFq.out.next hbq)
          have hz4 := hb4.size
          simp only [World.size_alloc] at hz4
          have HKK := Lib.hid HKK7.2
          clear a0 a1 hb4 hbq
          go_wp2_with fail
          -- a region that answers with the operator op over the expression in block bX (y..: HAXq, HFq, HAq)
          refine wp_region_noPanic (wp_region_sd (fun B => B.heap[w4.heap.size]? = some (.cells #[.slice (some ⟨g, 0, none⟩) ts.length cap, .int .i64 (k7 : Int)] 46 (0, 0)) ∧ B.heap[w2.heap.size + 1]? = some (.cells #[.int .i64 xk, .int .i64 x1, .int .i64 x2, S x3, S xt, S xn, .int .i64 xo, .slice asv xa.length csv] 30 (0, 0))) ((.take 0 (.take 1 (.one 2 (.one 3 (.one 4 (.one 5 (.take 6 .done)))))))) (by kernel_rfl) (by kernel_rfl) (by kernel_rfl) (fun _ _ _ _ _ h => h) (keep_two HAXq.out ((Bl.refl _).drew)) ?_) -- wp_region_sc 
          intro wd HWD hHeld
          refine sc_take' rfl (by rfl) (by intro w hSw; (try dsimp only at hSw); obtain ⟨a0, a1, -, -, -⟩ := cells2 hSw.1; obtain ⟨⟨e0, e1, e2, e3, e4, e5, e6, e7⟩, -⟩ := eight hSw.2; go_simp; (try (first | with_reducible rfl | rfl))) ?_; (try simp only [Act.put, List.setIfInBounds_toArray, List.set_cons_zero, List.set_cons_succ])
          refine sc_take' rfl (by rfl) (by intro w hSw; (try dsimp only at hSw); obtain ⟨a0, a1, -, -, -⟩ := cells2 hSw.1; obtain ⟨⟨e0, e1, e2, e3, e4, e5, e6, e7⟩, -⟩ := eight hSw.2; go_simp; (try (first | with_reducible rfl | rfl))) ?_; (try simp only [Act.put, List.setIfInBounds_toArray, List.set_cons_zero, List.set_cons_succ])
          refine sc_call' rfl (fun K hK => ?_); go_simp; refine hK.out _ _ ((keep_two hHeld ((Bl.refl _).alloc _))) (fun hHeld2 => ?_); clear hHeld hK K; have hHeld := hHeld2; clear hHeld2
          refine sc_call' rfl (fun K hK => ?_); go_simp; ((with_reducible refine (xOf_any 17 _ ⟨_, _, _, rfl⟩ _).mono ?_); rintro e w5 ⟨rfl, hb⟩); go_wp2_with fail; refine hK.out _ _ (keep_two hHeld hb) (fun hHeld2 => ?_); clear hHeld hK K; have hHeld := hHeld2; clear hHeld2
          have HF5 := Lib.hid ((HFq.out.next HWD.out).next (((Bl.refl _).alloc _).call hb))
          have HS5 := Lib.hid ((hb.block wd.heap.size (by simp)).trans (heap_new' _ _ (k := wd.heap.size) rfl))
          have HA5 := Lib.hid (HAq.out.bl (HWD.out.call (((Bl.refl _).alloc _).call hb)))
          clear hb
          obtain ⟨r0, r1, z0, z1, hlr⟩ := cells2 HF5.out.r
          refine sc_call' rfl (fun K hK => ?_); go_simp; refine hK.out _ _ ((keep_set2 (b := W.heap.size + 1) hHeld (by omega) (by omega))) (fun hHeld2 => ?_); clear hHeld hK K; have hHeld := hHeld2; clear hHeld2
          clear r0 r1 z0 z1
          obtain ⟨⟨e0, e1, e2, e3, e4, e5, e6, e7⟩, f0, f1, f2, f3, f4, f5, f6, f7⟩ := eight ((set2_other w5 (b := W.heap.size + 1) (i := W.heap.size + 1 + 1) (by omega) (.slice (some ⟨g, 0, none⟩) ts.length cap) (.int .i64 (k7 : Int))).trans HF5.out.x)
          refine sc_call' rfl (fun K hK => ?_); go_simp; refine hK.out _ _ ((keep_set8 (b := W.heap.size + 1 + 1) hHeld (by omega) (by omega))) (fun hHeld2 => ?_); clear hHeld hK K; have hHeld := hHeld2; clear hHeld2
          refine sc_take' rfl (by rfl) (by intro w hSw; (try dsimp only at hSw); obtain ⟨a0, a1, -, -, -⟩ := cells2 hSw.1; obtain ⟨⟨e0, e1, e2, e3, e4, e5, e6, e7⟩, -⟩ := eight hSw.2; go_simp; (try (first | with_reducible rfl | rfl))) ?_; (try simp only [Act.put, List.setIfInBounds_toArray, List.set_cons_zero, List.set_cons_succ])
          refine sc_nil (NoPanic.normal ?_)
          go_wp2
          have hzd1 := (HFq.out.next HWD.out).size
          have hzd2 := (Array.getElem?_eq_some_iff.1 (keep_two HAXq.out HWD.out).2).1
          obtain ⟨⟨q0, q1⟩, q2, q3, q4, q5, q6, q7, q8, q9⟩ := fin_cells (b := W.heap.size + 1) (c := W.heap.size + 1 + 1) (by omega) HF5.out.r HF5.out.x (.slice (some ⟨g, 0, none⟩) ts.length cap) (.int .i64 (k7 : Int)) (.int .i64 3) (.int .i64 0) (.int .i64 0) (S []) (S []) (S []) (.int .i64 17) (.slice (some ⟨wd.heap.size, 0, none⟩) 1 1)
          have hX : ReadsXP (fun b => W.heap.size + 3 ≤ b ∧ b ≠ w2.heap.size ∧ b ≠ w2.heap.size + 1) w5 (opE 17 [.mk xk (x1, x2, x3) xt xn xo xa]) (EV 3 (0, 0, []) [] [] 17 (.slice (some ⟨wd.heap.size, 0, none⟩) 1 1)) := readsX_op 17 (p_one 1 ⟨by omega, by omega, by omega⟩ HS5.out HA5.out)
          exact bodyPost_ret (v := .tuple #[RS g ts.length cap k7, EV 3 (0, 0, []) [] [] 17 (.slice (some ⟨wd.heap.size, 0, none⟩) 1 1), .int .i64 0]) (by simp [results, Tryz.results38, go_sem, q0, q1, q2, q3, q4, q5, q6, q7, q8, q9]) rfl ⟨k7, _, _, 0, HKK.out, fin_readsP hX (fun i hi => ⟨by have := hi.1; omega, by have := hi.1; omega, by have := hi.1; omega⟩) _ _ _ _ _ _ _ _ _ _, rfl, fin_bl HF5.out.bl (by omega) (by omega) _ _ _ _ _ _ _ _ _ _, hSay.out⟩
        | none =>
          rw [h17] at hRf
          have HE7 := Lib.hid (takeEnd_none (g := g) (cap := cap) h17)
          clear h17
          cases h18 : takeK ts k' [sIs, sNot, sNull] with
          | some k8 =>
            rw [h18] at hRf
            have HKK8 := takeK_le HT.out HKK.out h18
            have hSay := Lib.hid (show Says R k8 (opE 18 [.mk xk (x1, x2, x3) xt xn xo xa]) 0 from .inl ⟨rfl, hRf⟩)
            have HE8 := Lib.hid (takeEnd_some (g := g) (cap := cap) h18)
            clear hRf h18
            go_wp2_with fail
            refine (xtaken_any (n := 3) (H.out.bl HFq.out.bl) hfew HKK.out (by omega)).mono ?_
            rintro e w3 ⟨rfl, hb3⟩
            rw [HE.out]
            have hbq := hb3.alloc (.cells #[.slice (some ⟨g, 0, none⟩) ts.length cap, .int .i64 (k' : Int)] 46)
            have HAXq := Lib.hid (keep_two HAXq.out hbq)
            have HAq := Lib.hid (HAq.out.bl hbq)
            have HFq := Lib.hid (HFq.out.next hbq)
            have hz3 := hb3.size
            clear a0 a1 hb3 hbq
            obtain ⟨a0, a1, -, -, -⟩ := cells2 HAXq.out.1
            go_wp2_with fail
            refine (rTake_made H.out (HFq.out.bl.alloc _) hfew HKK.out 2 [sIs, sNull] rfl (by simp) (heap_new' _ _ (by simp))).mono ?_
            rintro e w4 ⟨rfl, hb4⟩
            rw [HE7.out]
            have hbq := (((Bl.refl _).alloc _).call hb4).alloc (.cells #[.slice (some ⟨g, 0, none⟩) ts.length cap, .int .i64 (k' : Int)] 46)
            have hz4 := hb4.size
            simp only [World.size_alloc] at hz4
            have HAXq := Lib.hid (keep_two HAXq.out hbq)
            have HAq := Lib.hid (HAq.out.bl hbq)
            have HFq := Lib.hid (HFq.out.next hbq)
            clear a0 a1 hb4 hbq
            obtain ⟨a0, a1, -, -, -⟩ := cells2 HAXq.out.1
            go_wp2_with fail
            refine (rTake_made H.out (HFq.out.bl.alloc _) hfew HKK.out 3 [sIs, sNot, sNull] rfl (by simp) (heap_new' _ _ (by simp))).mono ?_
            rintro e w6 ⟨rfl, hb6⟩
            rw [HE8.out]
            have hbq := (((Bl.refl _).alloc _).call hb6).alloc (.cells #[.slice (some ⟨g, 0, none⟩) ts.length cap, .int .i64 (k8 : Int)] 46)
            have HAXq := Lib.hid (And.intro (heap_new w6 (.cells #[.slice (some ⟨g, 0, none⟩) ts.length cap, .int .i64 (k8 : Int)] 46)) (keep_two HAXq.out hbq).2)
            have HAq := Lib.hid (HAq.out.bl hbq)
            have HFq := Lib.hid (HFq.out.next hbq)
            have hz6 := hb6.size
            simp only [World.size_alloc] at hz6
            have HKK := Lib.hid HKK8.2
            clear a0 a1 hb6 hbq
            go_wp2_with fail
            -- a region that answers with the operator op over the expression in block bX (y..: HAXq, HFq, HAq)
            refine wp_region_noPanic (wp_region_sd (fun B => B.heap[w6.heap.size]? = some (.cells #[.slice (some ⟨g, 0, none⟩) ts.length cap, .int .i64 (k8 : Int)] 46 (0, 0)) ∧ B.heap[w2.heap.size + 1]? = some (.cells #[.int .i64 xk, .int .i64 x1, .int .i64 x2, S x3, S xt, S xn, .int .i64 xo, .slice asv xa.length csv] 30 (0, 0))) ((.take 0 (.take 1 (.one 2 (.one 3 (.one 4 (.one 5 (.take 6 .done)))))))) (by kernel_rfl) (by kernel_rfl) (by kernel_rfl) (fun _ _ _ _ _ h => h) (keep_two HAXq.out ((Bl.refl _).drew)) ?_) -- wp_region_sc 
            intro wd HWD hHeld
            refine sc_take' rfl (by rfl) (by intro w hSw; (try dsimp only at hSw); obtain ⟨a0, a1, -, -, -⟩ := cells2 hSw.1; obtain ⟨⟨e0, e1, e2, e3, e4, e5, e6, e7⟩, -⟩ := eight hSw.2; go_simp; (try (first | with_reducible rfl | rfl))) ?_; (try simp only [Act.put, List.setIfInBounds_toArray, List.set_cons_zero, List.set_cons_succ])
            refine sc_take' rfl (by rfl) (by intro w hSw; (try dsimp only at hSw); obtain ⟨a0, a1, -, -, -⟩ := cells2 hSw.1; obtain ⟨⟨e0, e1, e2, e3, e4, e5, e6, e7⟩, -⟩ := eight hSw.2; go_simp; (try (first | with_reducible rfl | rfl))) ?_; (try simp only [Act.put, List.setIfInBounds_toArray, List.set_cons_zero, List.set_cons_succ])
            refine sc_call' rfl (fun K hK => ?_); go_simp; refine hK.out _ _ ((keep_two hHeld ((Bl.refl _).alloc _))) (fun hHeld2 => ?_); clear hHeld hK K; have hHeld := hHeld2; clear hHeld2
            refine sc_call' rfl (fun K hK => ?_); go_simp; ((with_reducible refine (xOf_any 18 _ ⟨_, _, _, rfl⟩ _).mono ?_); rintro e w5 ⟨rfl, hb⟩); go_wp2_with fail; refine hK.out _ _ (keep_two hHeld hb) (fun hHeld2 => ?_); clear hHeld hK K; have hHeld := hHeld2; clear hHeld2
            have HF5 := Lib.hid ((HFq.out.next HWD.out).next (((Bl.refl _).alloc _).call hb))
            have HS5 := Lib.hid ((hb.block wd.heap.size (by simp)).trans (heap_new' _ _ (k := wd.heap.size) rfl))
            have HA5 := Lib.hid (HAq.out.bl (HWD.out.call (((Bl.refl _).alloc _).call hb)))
            clear hb
            obtain ⟨r0, r1, z0, z1, hlr⟩ := cells2 HF5.out.r
            refine sc_call' rfl (fun K hK => ?_); go_simp; refine hK.out _ _ ((keep_set2 (b := W.heap.size + 1) hHeld (by omega) (by omega))) (fun hHeld2 => ?_); clear hHeld hK K; have hHeld := hHeld2; clear hHeld2
            clear r0 r1 z0 z1
            obtain ⟨⟨e0, e1, e2, e3, e4, e5, e6, e7⟩, f0, f1, f2, f3, f4, f5, f6, f7⟩ := eight ((set2_other w5 (b := W.heap.size + 1) (i := W.heap.size + 1 + 1) (by omega) (.slice (some ⟨g, 0, none⟩) ts.length cap) (.int .i64 (k8 : Int))).trans HF5.out.x)
            refine sc_call' rfl (fun K hK => ?_); go_simp; refine hK.out _ _ ((keep_set8 (b := W.heap.size + 1 + 1) hHeld (by omega) (by omega))) (fun hHeld2 => ?_); clear hHeld hK K; have hHeld := hHeld2; clear hHeld2
            refine sc_take' rfl (by rfl) (by intro w hSw; (try dsimp only at hSw); obtain ⟨a0, a1, -, -, -⟩ := cells2 hSw.1; obtain ⟨⟨e0, e1, e2, e3, e4, e5, e6, e7⟩, -⟩ := eight hSw.2; go_simp; (try (first | with_reducible rfl | rfl))) ?_; (try simp only [Act.put, List.setIfInBounds_toArray, List.set_cons_zero, List.set_cons_succ])
            refine sc_nil (NoPanic.normal ?_)
            go_wp2
            have hzd1 := (HFq.out.next HWD.out).size
            have hzd2 := (Array.getElem?_eq_some_iff.1 (keep_two HAXq.out HWD.out).2).1
            obtain ⟨⟨q0, q1⟩, q2, q3, q4, q5, q6, q7, q8, q9⟩ := fin_cells (b := W.heap.size + 1) (c := W.heap.size + 1 + 1) (by omega) HF5.out.r HF5.out.x (.slice (some ⟨g, 0, none⟩) ts.length cap) (.int .i64 (k8 : Int)) (.int .i64 3) (.int .i64 0) (.int .i64 0) (S []) (S []) (S []) (.int .i64 18) (.slice (some ⟨wd.heap.size, 0, none⟩) 1 1)
            have hX : ReadsXP (fun b => W.heap.size + 3 ≤ b ∧ b ≠ w2.heap.size ∧ b ≠ w2.heap.size + 1) w5 (opE 18 [.mk xk (x1, x2, x3) xt xn xo xa]) (EV 3 (0, 0, []) [] [] 18 (.slice (some ⟨wd.heap.size, 0, none⟩) 1 1)) := readsX_op 18 (p_one 1 ⟨by omega, by omega, by omega⟩ HS5.out HA5.out)
            exact bodyPost_ret (v := .tuple #[RS g ts.length cap k8, EV 3 (0, 0, []) [] [] 18 (.slice (some ⟨wd.heap.size, 0, none⟩) 1 1), .int .i64 0]) (by simp [results, Tryz.results38, go_sem, q0, q1, q2, q3, q4, q5, q6, q7, q8, q9]) rfl ⟨k8, _, _, 0, HKK.out, fin_readsP hX (fun i hi => ⟨by have := hi.1; omega, by have := hi.1; omega, by have := hi.1; omega⟩) _ _ _ _ _ _ _ _ _ _, rfl, fin_bl HF5.out.bl (by omega) (by omega) _ _ _ _ _ _ _ _ _ _, hSay.out⟩
          | none =>
            rw [h18] at hRf
            have hSay := Lib.hid (show Says R k' (.mk xk (x1, x2, x3) xt xn xo xa) 0 from .inl ⟨rfl, hRf⟩)
            have HE8 := Lib.hid (takeEnd_none (g := g) (cap := cap) h18)
            clear hRf h18
            go_wp2_with fail
            refine (xtaken_any (n := 3) (H.out.bl HFq.out.bl) hfew HKK.out (by omega)).mono ?_
            rintro e w3 ⟨rfl, hb3⟩
            rw [HE.out]
            have hbq := hb3.alloc (.cells #[.slice (some ⟨g, 0, none⟩) ts.length cap, .int .i64 (k' : Int)] 46)
            have HAXq := Lib.hid (keep_two HAXq.out hbq)
            have HAq := Lib.hid (HAq.out.bl hbq)
            have HFq := Lib.hid (HFq.out.next hbq)
            have hz3 := hb3.size
            clear a0 a1 hb3 hbq
            obtain ⟨a0, a1, -, -, -⟩ := cells2 HAXq.out.1
            go_wp2_with fail
            refine (rTake_made H.out (HFq.out.bl.alloc _) hfew HKK.out 2 [sIs, sNull] rfl (by simp) (heap_new' _ _ (by simp))).mono ?_
            rintro e w4 ⟨rfl, hb4⟩
            rw [HE7.out]
            have hbq := (((Bl.refl _).alloc _).call hb4).alloc (.cells #[.slice (some ⟨g, 0, none⟩) ts.length cap, .int .i64 (k' : Int)] 46)
            have hz4 := hb4.size
            simp only [World.size_alloc] at hz4
            have HAXq := Lib.hid (keep_two HAXq.out hbq)
            have HAq := Lib.hid (HAq.out.bl hbq)
            have HFq := Lib.hid (HFq.out.next hbq)
            clear a0 a1 hb4 hbq
            obtain ⟨a0, a1, -, -, -⟩ := cells2 HAXq.out.1
            go_wp2_with fail
            refine (rTake_made H.out (HFq.out.bl.alloc _) hfew HKK.out 3 [sIs, sNot, sNull] rfl (by simp) (heap_new' _ _ (by simp))).mono ?_
            rintro e w6 ⟨rfl, hb6⟩
            rw [HE8.out]
            have hbq := (((Bl.refl _).alloc _).call hb6).alloc (.cells #[.slice (some ⟨g, 0, none⟩) ts.length cap, .int .i64 (k' : Int)] 46)
            have HAXq := Lib.hid (keep_two HAXq.out hbq)
            have HAq := Lib.hid (HAq.out.bl hbq)
            have HFq := Lib.hid (HFq.out.next hbq)
            clear a0 a1 hb6 hbq
            go_wp2_with fail
            -- the last region: what stands in the blocks bt, bt + 1 is answered. HAXq: these blocks; HFq: the frame; HAq: the tree
            refine wp_region_noPanic (wp_region_sd (fun B => B.heap[w2.heap.size]? = some (.cells #[.slice (some ⟨g, 0, none⟩) ts.length cap, .int .i64 (k' : Int)] 46 (0, 0)) ∧ B.heap[w2.heap.size + 1]? = some (.cells #[.int .i64 xk, .int .i64 x1, .int .i64 x2, S x3, S xt, S xn, .int .i64 xo, .slice asv xa.length csv] 30 (0, 0))) ((.take 0 (.take 1 (.take 2 (.one 3 (.one 4 (.take 5 .done))))))) (by kernel_rfl) (by kernel_rfl) (by kernel_rfl) (fun _ _ _ _ _ h => h) (keep_two HAXq.out ((Bl.refl _).drew)) ?_) -- wp_region_sc 
            intro wd HWD hHeld
            refine sc_take' rfl (by rfl) (by intro w hSw; (try dsimp only at hSw); obtain ⟨a0, a1, -, -, -⟩ := cells2 hSw.1; obtain ⟨⟨e0, e1, e2, e3, e4, e5, e6, e7⟩, -⟩ := eight hSw.2; go_simp; (try (first | with_reducible rfl | rfl))) ?_; (try simp only [Act.put, List.setIfInBounds_toArray, List.set_cons_zero, List.set_cons_succ])
            refine sc_take' rfl (by rfl) (by intro w hSw; (try dsimp only at hSw); obtain ⟨a0, a1, -, -, -⟩ := cells2 hSw.1; obtain ⟨⟨e0, e1, e2, e3, e4, e5, e6, e7⟩, -⟩ := eight hSw.2; go_simp; (try (first | with_reducible rfl | rfl))) ?_; (try simp only [Act.put, List.setIfInBounds_toArray, List.set_cons_zero, List.set_cons_succ])
            refine sc_take' rfl (by rfl) (by intro w hSw; (try dsimp only at hSw); obtain ⟨a0, a1, -, -, -⟩ := cells2 hSw.1; obtain ⟨⟨e0, e1, e2, e3, e4, e5, e6, e7⟩, -⟩ := eight hSw.2; go_simp; (try (first | with_reducible rfl | rfl))) ?_; (try simp only [Act.put, List.setIfInBounds_toArray, List.set_cons_zero, List.set_cons_succ])
            obtain ⟨r0, r1, z0, z1, hlr⟩ := cells2 (HFq.out.next HWD.out).r
            refine sc_call' rfl (fun K hK => ?_); go_simp; refine hK.out _ _ ((keep_set2 (b := W.heap.size + 1) hHeld (by omega) (by omega))) (fun hHeld2 => ?_); clear hHeld hK K; have hHeld := hHeld2; clear hHeld2
            clear r0 r1 z0 z1
            obtain ⟨⟨e0, e1, e2, e3, e4, e5, e6, e7⟩, f0, f1, f2, f3, f4, f5, f6, f7⟩ := eight ((set2_other _ (b := W.heap.size + 1) (i := W.heap.size + 1 + 1) (by omega) (.slice (some ⟨g, 0, none⟩) ts.length cap) (.int .i64 (k' : Int))).trans (HFq.out.next HWD.out).x)
            refine sc_call' rfl (fun K hK => ?_); go_simp; refine hK.out _ _ ((keep_set8 (b := W.heap.size + 1 + 1) hHeld (by omega) (by omega))) (fun hHeld2 => ?_); clear hHeld hK K; have hHeld := hHeld2; clear hHeld2
            refine sc_take' rfl (by rfl) (by intro w hSw; (try dsimp only at hSw); obtain ⟨a0, a1, -, -, -⟩ := cells2 hSw.1; obtain ⟨⟨e0, e1, e2, e3, e4, e5, e6, e7⟩, -⟩ := eight hSw.2; go_simp; (try (first | with_reducible rfl | rfl))) ?_; (try simp only [Act.put, List.setIfInBounds_toArray, List.set_cons_zero, List.set_cons_succ])
            refine sc_nil (NoPanic.normal ?_)
            go_wp2
            obtain ⟨⟨q0, q1⟩, q2, q3, q4, q5, q6, q7, q8, q9⟩ := fin_cells (b := W.heap.size + 1) (c := W.heap.size + 1 + 1) (by omega) (HFq.out.next HWD.out).r (HFq.out.next HWD.out).x (.slice (some ⟨g, 0, none⟩) ts.length cap) (.int .i64 (k' : Int)) (.int .i64 xk) (.int .i64 x1) (.int .i64 x2) (S x3) (S xt) (S xn) (.int .i64 xo) (.slice asv xa.length csv)
            have hX : ReadsXP _ _ (.mk xk (x1, x2, x3) xt xn xo xa) (EV xk (x1, x2, x3) xt xn xo (.slice asv xa.length csv)) := ⟨_, rfl, HAq.out.bl HWD.out⟩
            exact bodyPost_ret (v := .tuple #[RS g ts.length cap k', EV xk (x1, x2, x3) xt xn xo (.slice asv xa.length csv), .int .i64 0]) (by simp [results, Tryz.results38, go_sem, q0, q1, q2, q3, q4, q5, q6, q7, q8, q9]) rfl ⟨k', _, _, 0, HKK.out, fin_readsP hX (fun i hi => ⟨by have := hi.1; omega, by have := hi.1; omega, by have := hi.1; omega⟩) _ _ _ _ _ _ _ _ _ _, rfl, fin_bl (HFq.out.next HWD.out).bl (by omega) (by omega) _ _ _ _ _ _ _ _ _ _, hSay.out⟩
      | some q =>
        obtain ⟨o, k2⟩ := q
        rw [ht] at hRf
        have hk2 := takenK_le HT.out hk' ht
        have HE := Lib.hid (takenEnd_some (g := g) (cap := cap) ht)
        have hop := level_pos (taken_mem ht)
        have ho0 : (o == 0) = false := by simp; omega
        have HRF := Lib.hid hRf
        have hrne := Lib.hid (bind_out (g := fun k3 y => .good k3 (opE o [.mk xk (x1, x2, x3) xt xn xo xa, y])) (show _ from by have := HNE.out; rw [hRf] at this; exact this))
        clear hRf ht hop
        go_wp2_with fail
        refine (xtaken_any (n := 3) (H.out.bl HFq.out.bl) hfew HKK.out (by omega)).mono ?_
        rintro e w3 ⟨rfl, hb3⟩
        rw [HE.out]
        have hz3 := hb3.size
        have hzA := (Array.getElem?_eq_some_iff.1 HAXq.out.2).1
        go_upto_region 20 with fail
        go_cut [21] from 109 to 117 (fun no wc => ∃ (k3 : Nat) (zk z1 z2 : Int) (z3 zt zn : List UInt8) (zo : Int) (za : List Ex) (zsv : Option Addr) (zcv : Nat) (c2 : Int), no = .int .i64 c2 ∧ k3 < ts.length ∧ FrR W wc g ts.length cap k ∧
            wc.heap[w2.heap.size]? = some (.cells #[.slice (some ⟨g, 0, none⟩) ts.length cap, .int .i64 (k3 : Int)] 46 (0, 0)) ∧ wc.heap[w2.heap.size + 1]? = some (.cells #[.int .i64 xk, .int .i64 x1, .int .i64 x2, S x3, S xt, S xn, .int .i64 xo, .slice asv xa.length csv] 30 (0, 0)) ∧
            wc.heap[w3.heap.size + 1]? = some (.cells #[.int .i64 zk, .int .i64 z1, .int .i64 z2, S z3, S zt, S zn, .int .i64 zo, .slice zsv za.length zcv] 30 (0, 0)) ∧ ReadsP (fun b => W.heap.size + 3 ≤ b ∧ b ≠ w2.heap.size ∧ b ≠ w2.heap.size + 1) wc (.slice asv xa.length csv) xa ∧
            ReadsP (fun b => W.heap.size + 3 ≤ b ∧ b ≠ w2.heap.size ∧ b ≠ w2.heap.size + 1) wc (.slice zsv za.length zcv) za ∧ Says (runR ts f (.rd 4 k2 d)) k3 (.mk zk (z1, z2, z3) zt zn zo za) c2 ∧ w3.heap.size + 1 < wc.heap.size)
        case first =>
          clear a0 a1
          have hb4 := Lib.hid ((hb3.alloc (.cells #[.slice (some ⟨g, 0, none⟩) ts.length cap, .int .i64 (k2 : Int)] 46)).alloc (.cells #[.int .i64 0, .int .i64 0, .int .i64 0, .string ⟨#[]⟩, .string ⟨#[]⟩, .string ⟨#[]⟩, .int .i64 0, .slice none 0 0] 30))
          go_wp2_with fail
          refine (HI.out f (Nat.le_refl _) _ g cap ts 4 k2 d 4 d rfl rfl (H.out.bl (HFq.out.bl.call hb4.out)) HT.out hfew hk2.2 (by omega) (by omega) (by rw [rdR_same _ _ _ _ _ hd]; exact hrne.out)).mono ?_
          rw [rdR_same _ _ _ _ _ hd]
          rintro e w5 ⟨k3, z, v, c2, hk3, ⟨zs, rfl, hZ⟩, rfl, hb5, hs5⟩
          obtain ⟨zk, ⟨z1, z2, z3⟩, zt, zn, zo, za⟩ := z
          obtain ⟨zsv, zcv, rfl⟩ := hZ.shape
          simp only [Ex.k, Ex.v, Ex.t, Ex.n, Ex.o, Ex.args] at hZ ⊢
          have HAX5 := Lib.hid (keep_two HAXq.out (hb4.out.call hb5))
          have H24 := Lib.hid ((hb5.block (w3.heap.size + 1) (by simp)).trans (heap_new' _ _ (k := w3.heap.size + 1) (by simp)))
          have HF5 := Lib.hid (HFq.out.next (hb4.out.call hb5))
          have HA5 := Lib.hid (show ReadsP (fun b => W.heap.size + 3 ≤ b ∧ b ≠ w2.heap.size ∧ b ≠ w2.heap.size + 1 ∧ b ≠ w3.heap.size + 1) w5 (.slice asv xa.length csv) xa from (HAq.out.of fun b hl hb => ⟨hb.1, hb.2.1, hb.2.2, by omega⟩).bl (hb4.out.call hb5))
          have HZ := Lib.hid (show ReadsP (fun b => W.heap.size + 3 ≤ b ∧ b ≠ w2.heap.size ∧ b ≠ w2.heap.size + 1 ∧ b ≠ w3.heap.size + 1) w5 (.slice zsv za.length zcv) za from hZ.of fun b hl (hb : _ ≤ b) => by simp at hb; omega)
          have HS5 := Lib.hid (And.intro hk3 hs5)
          have hz5 := (Array.getElem?_eq_some_iff.1 H24.out).1
          obtain ⟨b0, b1, d0, d1, -⟩ := cells2 HAX5.out.1
          obtain ⟨⟨e0, e1, e2, e3, e4, e5, e6, e7⟩, f0, f1, f3, f4, f5, f6, f7, f8⟩ := eight ((set2_other _ (b := w2.heap.size) (i := w3.heap.size + 1) (by omega) (.slice (some ⟨g, 0, none⟩) ts.length cap) (.int .i64 (k3 : Int))).trans H24.out)
          clear hb5 hZ hk3 hs5
          go_wp2
          go_meet
          case rel =>
            refine ⟨k3, zk, z1, z2, z3, zt, zn, zo, za, zsv, zcv, c2, rfl, HS5.out.1, (HF5.out.set2' (by omega) _ _).set8' (by omega) _ _ _ _ _ _ _ _, ?_, ?_, ?_, ?_, ?_, HS5.out.2, ?_⟩
            · exact (set8_other _ (b := w3.heap.size + 1) (by omega) _ _ _ _ _ _ _ _).trans (set2_heap HAX5.out.1 _ _)
            · exact (set8_other _ (b := w3.heap.size + 1) (by omega) _ _ _ _ _ _ _ _).trans ((set2_other _ (b := w2.heap.size) (by omega) _ _).trans HAX5.out.2)
            · exact set8_heap ((set2_other _ (b := w2.heap.size) (by omega) _ _).trans H24.out) _ _ _ _ _ _ _ _
            · exact ((HA5.out.set2' (fun i hi => hi.2.1) _ _).set8' (fun i hi => hi.2.2.2) _ _ _ _ _ _ _ _).of fun b _ hb => ⟨hb.1, hb.2.1, hb.2.2.1⟩
            · exact ((HZ.out.set2' (fun i hi => hi.2.1) _ _).set8' (fun i hi => hi.2.2.2) _ _ _ _ _ _ _ _).of fun b _ hb => ⟨hb.1, hb.2.1, hb.2.2.1⟩
            · simp only [World.size_setCell]
              exact hz5
        case rest =>
          obtain ⟨k3, zk, z1, z2, z3, zt, zn, zo, za, zsv, zcv, c2, rfl, hk3, hF, hB0, hB1, h24, hY, hZ, hSy, hzc⟩ := hcut
          obtain ⟨⟨e0, e1, e2, e3, e4, e5, e6, e7⟩, -⟩ := eight hB1
          obtain ⟨⟨i0, i1, i2, i3, i4, i5, i6, i7⟩, -⟩ := eight h24
          have HFc := Lib.hid hF
          have HB := Lib.hid (And.intro hB0 hB1)
          have HYZ := Lib.hid (And.intro hY hZ)
          have HSy := Lib.hid (And.intro hk3 hSy)
          clear hF hB0 hB1 h24 hY hZ hSy hk3 a0 a1
          go_wp2_with fail
          (with_reducible refine (xOf_any o _ ⟨_, _, _, rfl⟩ _).mono ?_)
          rintro e w6 ⟨rfl, hb6⟩
          have HFd := Lib.hid (HFc.out.next (((Bl.refl _).alloc _).call hb6))
          have HBd := Lib.hid (keep_two HB.out (((Bl.refl _).alloc _).call hb6))
          have HSL := Lib.hid ((hb6.block wc.heap.size (by simp)).trans (heap_new' _ _ (k := wc.heap.size) rfl))
          have HYd := Lib.hid (And.intro (HYZ.out.1.bl (((Bl.refl _).alloc _).call hb6)) (HYZ.out.2.bl (((Bl.refl _).alloc _).call hb6)))
          clear hb6 e0 e1 e2 e3 e4 e5 e6 e7 i0 i1 i2 i3 i4 i5 i6 i7
          obtain ⟨⟨e0, e1, e2, e3, e4, e5, e6, e7⟩, f0, f1, f3, f4, f5, f6, f7, f8⟩ := eight HBd.out.2
          go_wp2
          have hSay := Lib.hid (show Says R k3 (opE o [.mk xk (x1, x2, x3) xt xn xo xa, .mk zk (z1, z2, z3) zt zn zo za]) c2 from by
            rcases HSy.out.2 with ⟨rfl, e⟩ | ⟨hc, e⟩
            · exact .inl ⟨rfl, by rw [HRF.out]; (try simp only); rw [e]; rfl⟩
            · exact .inr ⟨hc, by rw [HRF.out]; (try simp only); rw [e]; rfl⟩)
          have HKK := Lib.hid HSy.out.1
          have HAq := Lib.hid ((p_two (p := fun b => W.heap.size + 3 ≤ b ∧ b ≠ w2.heap.size ∧ b ≠ w2.heap.size + 1) (x := .mk xk (x1, x2, x3) xt xn xo xa) (y := .mk zk (z1, z2, z3) zt zn zo za) 2 (show W.heap.size + 3 ≤ wc.heap.size ∧ wc.heap.size ≠ w2.heap.size ∧ wc.heap.size ≠ w2.heap.size + 1 from ⟨by omega, by omega, by omega⟩) HSL.out HYd.out.1 HYd.out.2).set8' (b := w2.heap.size + 1) (fun i hi => hi.2.2) (.int .i64 3) (.int .i64 0) (.int .i64 0) (S []) (S []) (S []) (.int .i64 o) (.slice (some ⟨wc.heap.size, 0, none⟩) 2 2))
          have HAXq := Lib.hid (And.intro ((set8_other w6 (b := w2.heap.size + 1) (i := w2.heap.size) (by omega) (.int .i64 3) (.int .i64 0) (.int .i64 0) (S []) (S []) (S []) (.int .i64 o) (.slice (some ⟨wc.heap.size, 0, none⟩) 2 2)).trans HBd.out.1) (set8_heap HBd.out.2 (.int .i64 3) (.int .i64 0) (.int .i64 0) (S []) (S []) (S []) (.int .i64 o) (.slice (some ⟨wc.heap.size, 0, none⟩) 2 2)))
          have HFq := Lib.hid (HFd.out.set8' (b := w2.heap.size + 1) (by omega) (.int .i64 3) (.int .i64 0) (.int .i64 0) (S []) (S []) (S []) (.int .i64 o) (.slice (some ⟨wc.heap.size, 0, none⟩) 2 2))
          clear e0 e1 e2 e3 e4 e5 e6 e7 f0 f1 f3 f4 f5 f6 f7 f8
          -- the last region: what stands in the blocks bt, bt + 1 is answered. HAXq: these blocks; HFq: the frame; HAq: the tree
          refine wp_region_noPanic (wp_region_sd (fun B => B.heap[w2.heap.size]? = some (.cells #[.slice (some ⟨g, 0, none⟩) ts.length cap, .int .i64 (k3 : Int)] 46 (0, 0)) ∧ B.heap[w2.heap.size + 1]? = some (.cells #[.int .i64 3, .int .i64 0, .int .i64 0, S [], S [], S [], .int .i64 o, .slice (some ⟨wc.heap.size, 0, none⟩) 2 2] 30 (0, 0))) ((.take 0 (.take 1 (.take 2 (.one 3 (.one 4 (.take 5 .done))))))) (by kernel_rfl) (by kernel_rfl) (by kernel_rfl) (fun _ _ _ _ _ h => h) (keep_two HAXq.out ((Bl.refl _).drew)) ?_) -- wp_region_sc 
          intro wd HWD hHeld
          refine sc_take' rfl (by rfl) (by intro w hSw; (try dsimp only at hSw); obtain ⟨a0, a1, -, -, -⟩ := cells2 hSw.1; obtain ⟨⟨e0, e1, e2, e3, e4, e5, e6, e7⟩, -⟩ := eight hSw.2; go_simp; (try (first | with_reducible rfl | rfl))) ?_; (try simp only [Act.put, List.setIfInBounds_toArray, List.set_cons_zero, List.set_cons_succ])
          refine sc_take' rfl (by rfl) (by intro w hSw; (try dsimp only at hSw); obtain ⟨a0, a1, -, -, -⟩ := cells2 hSw.1; obtain ⟨⟨e0, e1, e2, e3, e4, e5, e6, e7⟩, -⟩ := eight hSw.2; go_simp; (try (first | with_reducible rfl | rfl))) ?_; (try simp only [Act.put, List.setIfInBounds_toArray, List.set_cons_zero, List.set_cons_succ])
          refine sc_take' rfl (by rfl) (by intro w hSw; (try dsimp only at hSw); obtain ⟨a0, a1, -, -, -⟩ := cells2 hSw.1; obtain ⟨⟨e0, e1, e2, e3, e4, e5, e6, e7⟩, -⟩ := eight hSw.2; go_simp; (try (first | with_reducible rfl | rfl))) ?_; (try simp only [Act.put, List.setIfInBounds_toArray, List.set_cons_zero, List.set_cons_succ])
          obtain ⟨r0, r1, z0, z1, hlr⟩ := cells2 (HFq.out.next HWD.out).r
          refine sc_call' rfl (fun K hK => ?_); go_simp; refine hK.out _ _ ((keep_set2 (b := W.heap.size + 1) hHeld (by omega) (by omega))) (fun hHeld2 => ?_); clear hHeld hK K; have hHeld := hHeld2; clear hHeld2
          clear r0 r1 z0 z1
          obtain ⟨⟨e0, e1, e2, e3, e4, e5, e6, e7⟩, f0, f1, f2, f3, f4, f5, f6, f7⟩ := eight ((set2_other _ (b := W.heap.size + 1) (i := W.heap.size + 1 + 1) (by omega) (.slice (some ⟨g, 0, none⟩) ts.length cap) (.int .i64 (k3 : Int))).trans (HFq.out.next HWD.out).x)
          refine sc_call' rfl (fun K hK => ?_); go_simp; refine hK.out _ _ ((keep_set8 (b := W.heap.size + 1 + 1) hHeld (by omega) (by omega))) (fun hHeld2 => ?_); clear hHeld hK K; have hHeld := hHeld2; clear hHeld2
          refine sc_take' rfl (by rfl) (by intro w hSw; (try dsimp only at hSw); obtain ⟨a0, a1, -, -, -⟩ := cells2 hSw.1; obtain ⟨⟨e0, e1, e2, e3, e4, e5, e6, e7⟩, -⟩ := eight hSw.2; go_simp; (try (first | with_reducible rfl | rfl))) ?_; (try simp only [Act.put, List.setIfInBounds_toArray, List.set_cons_zero, List.set_cons_succ])
          refine sc_nil (NoPanic.normal ?_)
          go_wp2
          obtain ⟨⟨q0, q1⟩, q2, q3, q4, q5, q6, q7, q8, q9⟩ := fin_cells (b := W.heap.size + 1) (c := W.heap.size + 1 + 1) (by omega) (HFq.out.next HWD.out).r (HFq.out.next HWD.out).x (.slice (some ⟨g, 0, none⟩) ts.length cap) (.int .i64 (k3 : Int)) (.int .i64 3) (.int .i64 0) (.int .i64 0) (S []) (S []) (S []) (.int .i64 o) (.slice (some ⟨wc.heap.size, 0, none⟩) 2 2)
          have hX : ReadsXP _ _ (.mk 3 (0, 0, []) [] [] o [.mk xk (x1, x2, x3) xt xn xo xa, .mk zk (z1, z2, z3) zt zn zo za]) (EV 3 (0, 0, []) [] [] o (.slice (some ⟨wc.heap.size, 0, none⟩) 2 2)) := ⟨_, rfl, HAq.out.bl HWD.out⟩
          exact bodyPost_ret (v := .tuple #[RS g ts.length cap k3, EV 3 (0, 0, []) [] [] o (.slice (some ⟨wc.heap.size, 0, none⟩) 2 2), .int .i64 c2]) (by simp [results, Tryz.results38, go_sem, q0, q1, q2, q3, q4, q5, q6, q7, q8, q9]) rfl ⟨k3, _, _, c2, HKK.out, fin_readsP hX (fun i hi => ⟨by have := hi.1; omega, by have := hi.1; omega, by have := hi.1; omega⟩) _ _ _ _ _ _ _ _ _ _, rfl, fin_bl (HFq.out.next HWD.out).bl (by omega) (by omega) _ _ _ _ _ _ _ _ _ _, hSay.out⟩
    · have hcb : (c == 0) = false := by simpa using hc0
      have hSay := Lib.hid (show Says R k' (.mk xk (x1, x2, x3) xt xn xo xa) c from by
        obtain ⟨h1, h2⟩ := HS.out.no hc0
        exact .inr ⟨h1, by rw [HR0.out]; unfold cmpR; rw [h2]; rfl⟩)
      clear HS hk'
      go_wp2_with fail
      -- the last region: what stands in the blocks bt, bt + 1 is answered. HAXq: these blocks; HFq: the frame; HAq: the tree
      refine wp_region_noPanic (wp_region_sd (fun B => B.heap[w2.heap.size]? = some (.cells #[.slice (some ⟨g, 0, none⟩) ts.length cap, .int .i64 (k' : Int)] 46 (0, 0)) ∧ B.heap[w2.heap.size + 1]? = some (.cells #[.int .i64 xk, .int .i64 x1, .int .i64 x2, S x3, S xt, S xn, .int .i64 xo, .slice asv xa.length csv] 30 (0, 0))) ((.take 0 (.take 1 (.take 2 (.one 3 (.one 4 (.take 5 .done))))))) (by kernel_rfl) (by kernel_rfl) (by kernel_rfl) (fun _ _ _ _ _ h => h) (keep_two HAXq.out ((Bl.refl _).drew)) ?_) -- wp_region_sc 
      intro wd HWD hHeld
      refine sc_take' rfl (by rfl) (by intro w hSw; (try dsimp only at hSw); obtain ⟨a0, a1, -, -, -⟩ := cells2 hSw.1; obtain ⟨⟨e0, e1, e2, e3, e4, e5, e6, e7⟩, -⟩ := eight hSw.2; go_simp; (try (first | with_reducible rfl | rfl))) ?_; (try simp only [Act.put, List.setIfInBounds_toArray, List.set_cons_zero, List.set_cons_succ])
      refine sc_take' rfl (by rfl) (by intro w hSw; (try dsimp only at hSw); obtain ⟨a0, a1, -, -, -⟩ := cells2 hSw.1; obtain ⟨⟨e0, e1, e2, e3, e4, e5, e6, e7⟩, -⟩ := eight hSw.2; go_simp; (try (first | with_reducible rfl | rfl))) ?_; (try simp only [Act.put, List.setIfInBounds_toArray, List.set_cons_zero, List.set_cons_succ])
      refine sc_take' rfl (by rfl) (by intro w hSw; (try dsimp only at hSw); obtain ⟨a0, a1, -, -, -⟩ := cells2 hSw.1; obtain ⟨⟨e0, e1, e2, e3, e4, e5, e6, e7⟩, -⟩ := eight hSw.2; go_simp; (try (first | with_reducible rfl | rfl))) ?_; (try simp only [Act.put, List.setIfInBounds_toArray, List.set_cons_zero, List.set_cons_succ])
      obtain ⟨r0, r1, z0, z1, hlr⟩ := cells2 (HFq.out.next HWD.out).r
      refine sc_call' rfl (fun K hK => ?_); go_simp; refine hK.out _ _ ((keep_set2 (b := W.heap.size + 1) hHeld (by omega) (by omega))) (fun hHeld2 => ?_); clear hHeld hK K; have hHeld := hHeld2; clear hHeld2
      clear r0 r1 z0 z1
      obtain ⟨⟨e0, e1, e2, e3, e4, e5, e6, e7⟩, f0, f1, f2, f3, f4, f5, f6, f7⟩ := eight ((set2_other _ (b := W.heap.size + 1) (i := W.heap.size + 1 + 1) (by omega) (.slice (some ⟨g, 0, none⟩) ts.length cap) (.int .i64 (k' : Int))).trans (HFq.out.next HWD.out).x)
      refine sc_call' rfl (fun K hK => ?_); go_simp; refine hK.out _ _ ((keep_set8 (b := W.heap.size + 1 + 1) hHeld (by omega) (by omega))) (fun hHeld2 => ?_); clear hHeld hK K; have hHeld := hHeld2; clear hHeld2
      refine sc_take' rfl (by rfl) (by intro w hSw; (try dsimp only at hSw); obtain ⟨a0, a1, -, -, -⟩ := cells2 hSw.1; obtain ⟨⟨e0, e1, e2, e3, e4, e5, e6, e7⟩, -⟩ := eight hSw.2; go_simp; (try (first | with_reducible rfl | rfl))) ?_; (try simp only [Act.put, List.setIfInBounds_toArray, List.set_cons_zero, List.set_cons_succ])
      refine sc_nil (NoPanic.normal ?_)
      go_wp2
      obtain ⟨⟨q0, q1⟩, q2, q3, q4, q5, q6, q7, q8, q9⟩ := fin_cells (b := W.heap.size + 1) (c := W.heap.size + 1 + 1) (by omega) (HFq.out.next HWD.out).r (HFq.out.next HWD.out).x (.slice (some ⟨g, 0, none⟩) ts.length cap) (.int .i64 (k' : Int)) (.int .i64 xk) (.int .i64 x1) (.int .i64 x2) (S x3) (S xt) (S xn) (.int .i64 xo) (.slice asv xa.length csv)
      have hX : ReadsXP _ _ (.mk xk (x1, x2, x3) xt xn xo xa) (EV xk (x1, x2, x3) xt xn xo (.slice asv xa.length csv)) := ⟨_, rfl, HAq.out.bl HWD.out⟩
      exact bodyPost_ret (v := .tuple #[RS g ts.length cap k', EV xk (x1, x2, x3) xt xn xo (.slice asv xa.length csv), .int .i64 c]) (by simp [results, Tryz.results38, go_sem, q0, q1, q2, q3, q4, q5, q6, q7, q8, q9]) rfl ⟨k', _, _, c, HKK.out, fin_readsP hX (fun i hi => ⟨by have := hi.1; omega, by have := hi.1; omega, by have := hi.1; omega⟩) _ _ _ _ _ _ _ _ _ _, rfl, fin_bl (HFq.out.next HWD.out).bl (by omega) (by omega) _ _ _ _ _ _ _ _ _ _, hSay.out⟩
--END1

end Go.Proofs.YtepkfkfedmbmnaaGreatDoor
