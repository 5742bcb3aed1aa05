/- The program's comparison. The program's alone. -/
import Derived.Test.YtepkfkfedmbmnaaGreatDoorMD
namespace Go.Proofs.YtepkfkfedmbmnaaGreatDoor
open Go.RowKit
set_option maxRecDepth 100000

--BEGIN1
set_option maxHeartbeats 8000000 in
theorem ecompared_any {f : Nat} (hR : RdP f 4) {W : World} {bs g cap k d : Nat} {ts : List Tok} (h : Strm W bs g cap ts k) (hT : TokOK ts) (hd : d ≤ 60) (hne : cmpR ts (runR ts f) k d ≠ .out) :
    Calls Tryz.prog 61 #[RV bs, .int .i64 (d : Int)] W (XPost bs g cap ts W (cmpR ts (runR ts f) k d)) := by
  obtain ⟨R, HR0⟩ : ∃ R, Hid (R = cmpR ts (runR ts f) k d) := ⟨_, rfl⟩
  rw [← HR0.out] at hne ⊢
  have HNE := Lib.hid hne
  have hne1 : runR ts f (.rd 4 k d) ≠ .out := fun e => HNE.out (by rw [HR0.out]; unfold cmpR; rw [e]; rfl)
  have HN1 := Lib.hid hne1
  have HR := Lib.hid hR
  clear hne hR hne1
  have H := Lib.hid h
  have HT := Lib.hid hT
  have hbl := h.lt'
  have hgl := h.gl
  have HF0 := Lib.hid (FrP.start W bs)
  have HB0 := Lib.hid (((Bl.refl W).alloc (.cells #[.pointer (some ⟨bs, 0, none⟩)] 80)).alloc (.cells #[.int .i64 0, .int .i64 0, .int .i64 0, S [], S [], S [], .int .i64 0, .slice none 0 0] 30))
  clear h hT
  go_enter Tryz.func61, Tryz.ntmps61
  go_wp2_with fail
  refine (HR.out _ bs g cap ts k d _ rfl (H.out.bl HB0.out) HT.out hd HN1.out).mono ?_
  intro e w1 hp
  obtain ⟨hg1, k1, hs1, hcase⟩ := hp.open
  clear hp
  have HF1 := Lib.hid (HF0.out.next hbl hg1)
  have hz1 := HF1.out.size
  rcases hcase with ⟨yk, y1, y2, y3, yt, yn, yo, ya, ysv, ycv, hr1, hA, rfl⟩ | ⟨c, hc, hr1, rfl⟩
  · have HA1 := Lib.hid (show ReadsP (fun b => W.heap.size + 2 ≤ b) w1 (.slice ysv ya.length ycv) ya from hA.of fun b _ (hb : _ ≤ b) => by (try simp at hb); omega)
    have hRf : R = match takenK ts k1 (levelOps 3) with
      | some (o, k2) => (runR ts f (.rd 4 k2 d)).bind fun k3 y => .good k3 (opE o [.mk yk (y1, y2, y3) yt yn yo ya, y])
      | none => match takeK ts k1 [sIs, sNull] with
        | some k2 => .good k2 (opE 17 [.mk yk (y1, y2, y3) yt yn yo ya])
        | none => match takeK ts k1 [sIs, sNot, sNull] with
          | some k2 => .good k2 (opE 18 [.mk yk (y1, y2, y3) yt yn yo ya])
          | none => .good k1 (.mk yk (y1, y2, y3) yt yn yo ya) := by
      rw [HR0.out]; unfold cmpR; rw [hr1]; rfl
    have HS1 := Lib.hid hs1
    have hk1 := hs1.lt
    clear hg1 hs1 hA hr1
    have p0 := cells1 HF1.out.r
    have pz : W.heap.size < w1.heap.size := by omega
    cases ht : takenK ts k1 (levelOps 3) with
    | some q =>
      obtain ⟨o, k2⟩ := q
      rw [ht] at hRf
      have HRF := Lib.hid hRf
      have HTK := Lib.hid ht
      have HN2 := Lib.hid (bind_out (g := fun k3 y => .good k3 (opE o [.mk yk (y1, y2, y3) yt yn yo ya, y])) (show _ from by have := HNE.out; rw [hRf] at this; exact this))
      clear hRf ht
      go_wp2_with fail
      refine (etaken_yes (HS1.out.bl (((Bl.refl w1).alloc _).alloc _)) (ints_new (World.alloc w1 _) (by rw [World.size_alloc]; omega) (levelOps 3) _ _ rfl _ _ _ rfl (by rw [World.size_alloc])) (by decide) (fun o ho => level_ops (n := 3) ho) HTK.out).mono ?_
      rintro e w2 ⟨rfl, hg2, hs2⟩
      have HG2 := Lib.hid (grown_trans (grown_bl (((Bl.refl w1).alloc _).alloc _) (some bs)) hg2)
      have HX2 := Lib.hid ((hg2.block w1.heap.size (by simp; omega) (fun e => by injection e with e; omega)).trans ((heap_old _ _ (by simp)).trans (heap_new w1 _)))
      have HF2 := Lib.hid (HF1.out.next hbl HG2.out)
      have HA2 := Lib.hid (HA1.out.grown HG2.out (fun h => by omega))
      have HS2 := Lib.hid hs2
      have hz2 := HF2.out.size
      have hzx := (Array.getElem?_eq_some_iff.1 HX2.out).1
      clear hg2 hs2 p0
      go_wp2_with fail
      refine (wp_region_sd (fun B => B.heap[W.heap.size]? = some (.cells #[.pointer (some ⟨bs, 0, none⟩)] 80 (0, 0)) ∧ B.heap[w1.heap.size]? = some (.cells #[.int .i64 yk, .int .i64 y1, .int .i64 y2, S y3, S yt, S yn, .int .i64 yo, .slice ysv ya.length ycv] 30 (0, 0))) ((.take 0 (.take 1 (.take 2 (.take 3 (.one 4 (.one 5 (.one 6 (.one 7 .done))))))))) (by kernel_rfl) (by kernel_rfl) (by kernel_rfl) (fun c a d v w h => by cases d <;> exact h) (keep_two ⟨HF2.out.r, HX2.out⟩ ((Bl.refl _).drew)) ?_) -- wp_region_sc 
      intro wd HWD hHeld
      refine sc_take' rfl (by rfl) (by intro w hSw; (try dsimp only at hSw); have a0 := cells1 hSw.1; obtain ⟨⟨e0, e1, e2, e3, e4, e5, e6, e7⟩, -⟩ := eight hSw.2; go_simp; (try (first | with_reducible rfl | rfl))) ?_; (try simp only [Act.put, List.setIfInBounds_toArray, List.set_cons_zero, List.set_cons_succ])
      refine sc_take' rfl (by rfl) (by intro w hSw; (try dsimp only at hSw); have a0 := cells1 hSw.1; obtain ⟨⟨e0, e1, e2, e3, e4, e5, e6, e7⟩, -⟩ := eight hSw.2; go_simp; (try (first | with_reducible rfl | rfl))) ?_; (try simp only [Act.put, List.setIfInBounds_toArray, List.set_cons_zero, List.set_cons_succ])
      refine sc_take' rfl (by rfl) (by intro w hSw; (try dsimp only at hSw); have a0 := cells1 hSw.1; obtain ⟨⟨e0, e1, e2, e3, e4, e5, e6, e7⟩, -⟩ := eight hSw.2; go_simp; (try (first | with_reducible rfl | rfl))) ?_; (try simp only [Act.put, List.setIfInBounds_toArray, List.set_cons_zero, List.set_cons_succ])
      refine sc_take' rfl (by rfl) (by intro w hSw; (try dsimp only at hSw); have a0 := cells1 hSw.1; obtain ⟨⟨e0, e1, e2, e3, e4, e5, e6, e7⟩, -⟩ := eight hSw.2; go_simp; (try (first | with_reducible rfl | rfl))) ?_; (try simp only [Act.put, List.setIfInBounds_toArray, List.set_cons_zero, List.set_cons_succ])
      refine sc_call' rfl (fun K hK => ?_); go_simp; (refine (HR.out _ bs g cap ts k2 d _ rfl (HS2.out.bl HWD.out) HT.out hd HN2.out).mono ?_; intro e w5 hp; obtain ⟨hg5, k5, hs5, hcase⟩ := hp.open; clear hp; have HF5 := Lib.hid ((HF2.out.bl HWD.out).next hbl hg5); rcases hcase with ⟨zk, z1, z2, z3, zt, zn, zo, za, zsv, zcv, hr5, hZ, rfl⟩ | ⟨c, hc, hr5, rfl⟩; rotate_left; (· go_wp2; exact ⟨rfl, XPost.no HF5.out.grown hs5 hc (by rw [HRF.out]; (try simp only); rw [hr5]; rfl)⟩); have hzd := HWD.out.size; have HX5 := Lib.hid ((hg5.block _ (by omega) (fun e => by injection e with e; omega)).trans ((HWD.out.block _ (by omega)).trans HX2.out)); have HS5 := Lib.hid hs5; have HR5 := Lib.hid hr5; have HA5 := Lib.hid ((HA2.out.bl HWD.out).grown hg5 (fun h => by omega)); have hz5 := hg5.4; have HZ := Lib.hid (show ReadsP (fun b => W.heap.size + 2 ≤ b) w5 (.slice zsv za.length zcv) za from hZ.of fun b hl (hb : _ ≤ b) => by omega); clear hg5 hs5 hr5 hZ); go_wp2_with fail; refine hK.out _ _ ((by first | exact ⟨HF6.out.r, HX6.out⟩ | exact ⟨HF5.out.r, HX5.out⟩)) (fun hHeld2 => ?_); clear hHeld hK K; have hHeld := hHeld2; clear hHeld2
      refine sc_call' rfl (fun K hK => ?_); go_simp; refine hK.out _ _ (⟨(HF5.out.bl ((Bl.refl _).alloc _)).r, (heap_old _ _ (by omega)).trans HX5.out⟩) (fun hHeld2 => ?_); clear hHeld hK K; have hHeld := hHeld2; clear hHeld2
      refine sc_call' rfl (fun K hK => ?_); go_simp; ((with_reducible refine (eof_any o _ _ _ _).mono ?_); rintro e w6 ⟨rfl, hb6⟩; have HB6 := Lib.hid (((Bl.refl w5).alloc _).call hb6); have HSL := Lib.hid ((hb6.block w5.heap.size (by simp)).trans (heap_new' _ _ (k := w5.heap.size) rfl)); have HF6 := Lib.hid (HF5.out.bl HB6.out); have HX6 := Lib.hid ((HB6.out.block _ (by omega)).trans HX5.out); clear hb6); go_wp2_with fail; refine hK.out _ _ ((by first | exact ⟨HF6.out.r, HX6.out⟩ | exact ⟨HF5.out.r, HX5.out⟩)) (fun hHeld2 => ?_); clear hHeld hK K; have hHeld := hHeld2; clear hHeld2
      obtain ⟨⟨e0, e1, e2, e3, e4, e5, e6, e7⟩, f0, f1, f3, f4, f5, f6, f7, f8⟩ := eight HF6.out.x
      refine sc_call' rfl (fun K hK => ?_); go_simp; refine hK.out _ _ (⟨(set8_other _ (b := W.heap.size + 1) (by omega) _ _ _ _ _ _ _ _).trans HF6.out.r, (set8_other _ (b := W.heap.size + 1) (by omega) _ _ _ _ _ _ _ _).trans HX6.out⟩) (fun hHeld2 => ?_); clear hHeld hK K; have hHeld := hHeld2; clear hHeld2
      clear e0 e1 e2 e3 e4 e5 e6 e7 f0 f1 f3 f4 f5 f6 f7 f8
      refine sc_nil ?_
      go_wp2
      -- the answer's place is loaded and answered
      obtain ⟨⟨q0, q1, q2, q3, q4, q5, q6, q7⟩, -⟩ := eight (set8_heap (HF6.out).x (.int .i64 3) (.int .i64 0) (.int .i64 0) (S []) (S []) (S []) (.int .i64 o) (.slice (some ⟨w5.heap.size, 0, none⟩) 2 2))
      refine bodyPost_ret (v := .agg #[.int .i64 3, .int .i64 0, .int .i64 0, S [], S [], S [], .int .i64 o, .slice (some ⟨w5.heap.size, 0, none⟩) 2 2]) (by simp [results, Tryz.results61, go_sem, q0, q1, q2, q3, q4, q5, q6, q7]) rfl ?_
      exact HF6.out.fin (ya := [.mk yk (y1, y2, y3) yt yn yo ya, .mk zk (z1, z2, z3) zt zn zo za]) hbl hgl (HS5.out.bl HB6.out) (p_two (p := fun b => W.heap.size + 2 ≤ b) 2 (by omega) HSL.out (HA5.out.bl HB6.out) (HZ.out.bl HB6.out)) (by rw [HRF.out]; (try simp only); rw [HR5.out]; rfl)
    | none =>
      rw [ht] at hRf
      simp only at hRf
      have HRf := Lib.hid hRf
      have HTK := Lib.hid ht
      clear ht hRf
      go_wp2_with fail
      refine (etaken_no (HS1.out.bl (((Bl.refl w1).alloc _).alloc _)) (ints_new (World.alloc w1 _) (by rw [World.size_alloc]; omega) (levelOps 3) _ _ rfl _ _ _ rfl (by rw [World.size_alloc])) (by decide) (fun o ho => level_ops (n := 3) ho) HTK.out).mono ?_
      rintro e w2 ⟨rfl, hg2, hs2⟩
      have HG2 := Lib.hid (grown_trans (grown_bl (((Bl.refl w1).alloc _).alloc _) (some bs)) hg2)
      have HX2 := Lib.hid ((hg2.block w1.heap.size (by simp; omega) (fun e => by injection e with e; omega)).trans ((heap_old _ _ (by simp)).trans (heap_new w1 _)))
      have HF2 := Lib.hid (HF1.out.next hbl HG2.out)
      have HA2 := Lib.hid (HA1.out.grown HG2.out (fun h => by omega))
      have HS2 := Lib.hid hs2
      have hzx := (Array.getElem?_eq_some_iff.1 HX2.out).1
      clear hg2 hs2 p0
      have p0 := cells1 HF2.out.r
      cases ht1 : takeK ts k1 [sIs, sNull] with
      | some k2 =>
        have HRF := Lib.hid (show R = .good k2 (opE 17 [.mk yk (y1, y2, y3) yt yn yo ya]) from by rw [HRf.out, ht1])
        have HT1 := Lib.hid ht1
        clear ht1
        go_wp2_with fail
        refine (etake_yes HS2.out [sIs, sNull] HT1.out _ 2 _ _ rfl rfl (by simp) (by simp)).mono ?_
        rintro e w3 ⟨rfl, hg3, hs3⟩
        have HX3 := Lib.hid ((hg3.block _ hzx (fun e => by injection e with e; omega)).trans HX2.out)
        have HF3 := Lib.hid (HF2.out.next hbl hg3)
        have HA3 := Lib.hid (HA2.out.grown hg3 (fun h => by omega))
        have HS3 := Lib.hid hs3
        clear hg3 hs3 p0
        -- an operator of what was read: the cells of HX lie in block w1.heap.size of world w
        obtain ⟨⟨e0, e1, e2, e3, e4, e5, e6, e7⟩, -⟩ := eight (HX3).out
        go_wp2_with fail
        (with_reducible refine (eof_any 17 _ _ _ _).mono ?_)
        rintro e w8 ⟨rfl, hb8⟩
        have HB8 := Lib.hid (((Bl.refl w3).alloc _).call hb8)
        have HF8 := Lib.hid ((HF3).out.bl HB8.out)
        have HSL := Lib.hid ((hb8.block (w3).heap.size (by simp)).trans (heap_new' _ _ (k := (w3).heap.size) rfl))
        clear e0 e1 e2 e3 e4 e5 e6 e7
        obtain ⟨⟨e0, e1, e2, e3, e4, e5, e6, e7⟩, f0, f1, f3, f4, f5, f6, f7, f8⟩ := eight HF8.out.x
        have hzw := (HF3).out.size
        clear hb8
        go_wp2
        -- the answer's place is loaded and answered
        obtain ⟨⟨q0, q1, q2, q3, q4, q5, q6, q7⟩, -⟩ := eight (set8_heap (HF8.out).x (.int .i64 3) (.int .i64 0) (.int .i64 0) (S []) (S []) (S []) (.int .i64 17) (.slice (some ⟨(w3).heap.size, 0, none⟩) 1 1))
        refine bodyPost_ret (v := .agg #[.int .i64 3, .int .i64 0, .int .i64 0, S [], S [], S [], .int .i64 17, .slice (some ⟨(w3).heap.size, 0, none⟩) 1 1]) (by simp [results, Tryz.results61, go_sem, q0, q1, q2, q3, q4, q5, q6, q7]) rfl ?_
        exact HF8.out.fin (ya := [.mk yk (y1, y2, y3) yt yn yo ya]) hbl hgl ((HS3).out.bl HB8.out) (p_one (p := fun b => W.heap.size + 2 ≤ b) 1 (by omega) HSL.out ((HA3).out.bl HB8.out)) (HRF.out)
      | none =>
        have hRf2 : R = match takeK ts k1 [sIs, sNot, sNull] with
          | some k2 => .good k2 (opE 18 [.mk yk (y1, y2, y3) yt yn yo ya])
          | none => .good k1 (.mk yk (y1, y2, y3) yt yn yo ya) := by rw [HRf.out, ht1]
        have HRf2 := Lib.hid hRf2
        have HT1 := Lib.hid ht1
        clear hRf2 ht1
        go_wp2_with fail
        refine (etake_no HS2.out [sIs, sNull] HT1.out _ 2 _ _ rfl rfl (by simp) (by simp)).mono ?_
        rintro e w3 ⟨rfl, hg3, hs3⟩
        have HX3 := Lib.hid ((hg3.block _ hzx (fun e => by injection e with e; omega)).trans HX2.out)
        have HF3 := Lib.hid (HF2.out.next hbl hg3)
        have HA3 := Lib.hid (HA2.out.grown hg3 (fun h => by omega))
        have HS3 := Lib.hid hs3
        have hzx3 := (Array.getElem?_eq_some_iff.1 HX3.out).1
        clear hg3 hs3 p0
        have p0 := cells1 HF3.out.r
        cases ht2 : takeK ts k1 [sIs, sNot, sNull] with
        | some k2 =>
          have HRF := Lib.hid (show R = .good k2 (opE 18 [.mk yk (y1, y2, y3) yt yn yo ya]) from by rw [HRf2.out]; rw [ht2])
          have HT2 := Lib.hid ht2
          clear ht2
          go_wp2_with fail
          refine (etake_yes HS3.out [sIs, sNot, sNull] HT2.out _ 3 _ _ rfl rfl (by simp) (by simp)).mono ?_
          rintro e w4 ⟨rfl, hg4, hs4⟩
          have HX4 := Lib.hid ((hg4.block _ hzx3 (fun e => by injection e with e; omega)).trans HX3.out)
          have HF4 := Lib.hid (HF3.out.next hbl hg4)
          have HA4 := Lib.hid (HA3.out.grown hg4 (fun h => by omega))
          have HS4 := Lib.hid hs4
          clear hg4 hs4 p0
          -- an operator of what was read: the cells of HX lie in block w1.heap.size of world w
          obtain ⟨⟨e0, e1, e2, e3, e4, e5, e6, e7⟩, -⟩ := eight (HX4).out
          go_wp2_with fail
          (with_reducible refine (eof_any 18 _ _ _ _).mono ?_)
          rintro e w8 ⟨rfl, hb8⟩
          have HB8 := Lib.hid (((Bl.refl w4).alloc _).call hb8)
          have HF8 := Lib.hid ((HF4).out.bl HB8.out)
          have HSL := Lib.hid ((hb8.block (w4).heap.size (by simp)).trans (heap_new' _ _ (k := (w4).heap.size) rfl))
          clear e0 e1 e2 e3 e4 e5 e6 e7
          obtain ⟨⟨e0, e1, e2, e3, e4, e5, e6, e7⟩, f0, f1, f3, f4, f5, f6, f7, f8⟩ := eight HF8.out.x
          have hzw := (HF4).out.size
          clear hb8
          go_wp2
          -- the answer's place is loaded and answered
          obtain ⟨⟨q0, q1, q2, q3, q4, q5, q6, q7⟩, -⟩ := eight (set8_heap (HF8.out).x (.int .i64 3) (.int .i64 0) (.int .i64 0) (S []) (S []) (S []) (.int .i64 18) (.slice (some ⟨(w4).heap.size, 0, none⟩) 1 1))
          refine bodyPost_ret (v := .agg #[.int .i64 3, .int .i64 0, .int .i64 0, S [], S [], S [], .int .i64 18, .slice (some ⟨(w4).heap.size, 0, none⟩) 1 1]) (by simp [results, Tryz.results61, go_sem, q0, q1, q2, q3, q4, q5, q6, q7]) rfl ?_
          exact HF8.out.fin (ya := [.mk yk (y1, y2, y3) yt yn yo ya]) hbl hgl ((HS4).out.bl HB8.out) (p_one (p := fun b => W.heap.size + 2 ≤ b) 1 (by omega) HSL.out ((HA4).out.bl HB8.out)) (HRF.out)
        | none =>
          have HRF := Lib.hid (show R = .good k1 (.mk yk (y1, y2, y3) yt yn yo ya) from by rw [HRf2.out]; rw [ht2])
          have HT2 := Lib.hid ht2
          clear ht2
          go_wp2_with fail
          refine (etake_no HS3.out [sIs, sNot, sNull] HT2.out _ 3 _ _ rfl rfl (by simp) (by simp)).mono ?_
          rintro e w4 ⟨rfl, hg4, hs4⟩
          have HX4 := Lib.hid ((hg4.block _ hzx3 (fun e => by injection e with e; omega)).trans HX3.out)
          have HF4 := Lib.hid (HF3.out.next hbl hg4)
          have HA4 := Lib.hid (HA3.out.grown hg4 (fun h => by omega))
          have HS4 := Lib.hid hs4
          clear hg4 hs4 p0
          obtain ⟨⟨e0, e1, e2, e3, e4, e5, e6, e7⟩, -⟩ := eight HX4.out
          obtain ⟨⟨i0, i1, i2, i3, i4, i5, i6, i7⟩, f0, f1, f3, f4, f5, f6, f7, f8⟩ := eight HF4.out.x
          go_wp2
          -- the answer's place is loaded and answered
          obtain ⟨⟨q0, q1, q2, q3, q4, q5, q6, q7⟩, -⟩ := eight (set8_heap (HF4.out).x (.int .i64 yk) (.int .i64 y1) (.int .i64 y2) (S y3) (S yt) (S yn) (.int .i64 yo) (.slice ysv ya.length ycv))
          refine bodyPost_ret (v := .agg #[.int .i64 yk, .int .i64 y1, .int .i64 y2, S y3, S yt, S yn, .int .i64 yo, .slice ysv ya.length ycv]) (by simp [results, Tryz.results61, go_sem, q0, q1, q2, q3, q4, q5, q6, q7]) rfl ?_
          exact HF4.out.fin hbl hgl HS4.out HA4.out HRF.out
  · clear hg1
    go_wp2
    exact ⟨rfl, XPost.no HF1.out.grown hs1 hc (by rw [HR0.out]; unfold cmpR; rw [hr1]; rfl)⟩
--END1

end Go.Proofs.YtepkfkfedmbmnaaGreatDoor

namespace Go.Proofs.YtepkfkfedmbmnaaGreatDoor
open Go.RowKit
set_option maxRecDepth 100000

/-- What called answers. -/
def CalledP (f : Nat) : Prop := ∀ (W : World) (bs g cap : Nat) (ts : List Tok) (nm : List UInt8) (k d : Nat), Strm W bs g cap ts k → TokOK ts → d ≤ 60 → calledR ts (runR ts f) nm k d ≠ .out →
  Calls Tryz.prog 166 #[RV bs, S nm, .int .i64 (d : Int)] W (XPost bs g cap ts W (calledR ts (runR ts f) nm k d))
def econsts : List (List UInt8) := [sFalse, sTrue, sNull]
theorem econst_drop {ts : List Tok} {k j : Nat} (hj : j < 3) : constR ts k ([(sFalse, 0), (sTrue, 1), (sNull, 2)].drop j) = match takeK ts k [econsts[j]'hj] with
    | some k' => some (k', (j : Int))
    | none => constR ts k ([(sFalse, 0), (sTrue, 1), (sNull, 2)].drop (j + 1)) := by
  match j, hj with
  | 0, _ => rfl
  | 1, _ => rfl
  | 2, _ => rfl
theorem cells_tok {W : World} {b : Nat} {x0 x1 x2 x3 x4 x5 : Value} {t : TypeId} (h : W.heap[b]? = some (.cells #[x0, x1, x2, x3, x4, x5] t (0, 0))) : W.cell? ⟨b, 0, none⟩ = some x0 ∧ W.cell? ⟨b, 3, none⟩ = some x3 ∧ W.cell? ⟨b, 4, none⟩ = some x4 ∧ W.cell? ⟨b, 5, none⟩ = some x5 :=
  ⟨by rw [Lib.cell_of_heap h]; rfl, by rw [Lib.cell_of_heap h]; rfl, by rw [Lib.cell_of_heap h]; rfl, by rw [Lib.cell_of_heap h]; rfl⟩
--BEGIN1
set_option maxHeartbeats 8000000 in
theorem ealone_any {f : Nat} (hR : RdP f 0) (hC : CalledP f) {W : World} {bs g cap k d : Nat} {ts : List Tok} (h : Strm W bs g cap ts k) (hT : TokOK ts) (hd : d ≤ 60) (hne : aloneR ts (runR ts f) k d ≠ .out) :
    Calls Tryz.prog 140 #[RV bs, .int .i64 (d : Int)] W (XPost bs g cap ts W (aloneR ts (runR ts f) k d)) := by
  obtain ⟨R, HR0⟩ : ∃ R, Hid (R = aloneR ts (runR ts f) k d) := ⟨_, rfl⟩
  rw [← HR0.out] at hne ⊢
  have HNE := Lib.hid hne
  have HR := Lib.hid hR
  have HC := Lib.hid hC
  have hx : ts[k]? = some (ts[k]'h.lt) := List.getElem?_eq_getElem h.lt
  generalize ts[k]'h.lt = x at hx
  have HX := Lib.hid hx
  clear hne hR hC hx
  have H := Lib.hid h
  have HT := Lib.hid hT
  have hbl := h.lt'
  have hgl := h.gl
  have HF0 := Lib.hid (FrP.start W bs)
  have HB0 := Lib.hid (((Bl.refl W).alloc (.cells #[.pointer (some ⟨bs, 0, none⟩)] 80)).alloc (.cells #[.int .i64 0, .int .i64 0, .int .i64 0, S [], S [], S [], .int .i64 0, .slice none 0 0] 30))
  clear h hT
  go_enter Tryz.func140, Tryz.ntmps140
  go_wp2_with fail
  (with_reducible refine (tPeek_any (H.out.bl HB0.out) HX.out).mono ?_)
  rintro e w1 ⟨rfl, hb1⟩
  have HF1 := Lib.hid (HF0.out.bl hb1)
  have HS1 := Lib.hid ((H.out.bl HB0.out).bl hb1)
  have hz1 := HF1.out.size
  have p0 := cells1 HF1.out.r
  have pz : W.heap.size < w1.heap.size := by omega
  obtain ⟨tk, tp, tt, ta, tb, tc⟩ := x
  clear hb1
  by_cases h2 : tk = 2
  · subst h2
    have HRF := Lib.hid (show R = .good (nextK ts.length k) (valE (ta, tb, tc)) from by rw [HR0.out]; unfold aloneR; rw [HX.out]; rfl)
    have hT1 := heap_new w1 (.cells #[.int .i64 2, .int .i64 (tp : Int), S tt, .int .i64 ta, .int .i64 tb, S tc] 53)
    go_wp2_with fail
    (with_reducible refine (tNext_any (HS1.out.bl ((Bl.refl w1).alloc _)) HX.out).mono ?_)
    rintro e w2 ⟨rfl, hg2, hs2⟩
    have HF2 := Lib.hid ((HF1.out.bl ((Bl.refl w1).alloc _)).next hbl hg2)
    have HS2 := Lib.hid hs2
    have hT2 := (hg2.block w1.heap.size (by simp) (fun e => by injection e with e; omega)).trans hT1
    obtain ⟨t0, t3, t4, t5⟩ := cells_tok hT2
    obtain ⟨⟨i0, i1, i2, i3, i4, i5, i6, i7⟩, f0, f1, f3, f4, f5, f6, f7, f8⟩ := eight HF2.out.x
    clear hg2 hs2 p0 hT1
    go_wp2
    -- the answer's place is loaded and answered
    obtain ⟨⟨q0, q1, q2, q3, q4, q5, q6, q7⟩, -⟩ := eight (set8_heap (HF2.out).x (.int .i64 1) (.int .i64 ta) (.int .i64 tb) (S tc) (S []) (S []) (.int .i64 0) (.slice none 0 0))
    refine bodyPost_ret (v := .agg #[.int .i64 1, .int .i64 ta, .int .i64 tb, S tc, S [], S [], .int .i64 0, .slice none 0 0]) (by simp [results, Tryz.results140, go_sem, q0, q1, q2, q3, q4, q5, q6, q7]) rfl ?_
    exact HF2.out.fin (ya := []) hbl hgl HS2.out (ReadsP.nil _ _ _ _) HRF.out
  · have hb2 : (tk == 2) = false := by simpa using h2
    have hRf : R = match constR ts k [(sFalse, 0), (sTrue, 1), (sNull, 2)] with
      | some (k', i) => .good k' (valE (ofK i, ofN i, []))
      | none => match takeK ts k [[40]] with
        | some k' => (deeperR d (runR ts f (.rd 0 k' (d + 1)))).bind fun k2 y => match takeK ts k2 [[41]] with
          | some k3 => .good k3 y
          | none => .bad 261
        | none => match nameK ts k with
          | none => .bad 261
          | some (nm, k1) => match takeK ts k1 [[40]] with
            | some k2 => calledR ts (runR ts f) nm k2 d
            | none => match takeK ts k1 [[46]] with
              | some k2 => match nameK ts k2 with
                | none => .bad 261
                | some (c, k3) => .good k3 (colE nm c)
              | none => .good k1 (colE [] nm) := by
      rw [HR0.out]; unfold aloneR; rw [HX.out]; simp only; rw [if_neg h2]; rfl
    have HRF := Lib.hid hRf
    clear h2 hRf
    have HS1' := Lib.hid (HS1.out.bl (((Bl.refl w1).alloc (.cells #[.int .i64 tk, .int .i64 (tp : Int), S tt, .int .i64 ta, .int .i64 tb, S tc] 53)).alloc (.cells #[S sFalse, S sTrue, S sNull] 9)))
    have HF1' := Lib.hid (HF1.out.bl (((Bl.refl w1).alloc (.cells #[.int .i64 tk, .int .i64 (tp : Int), S tt, .int .i64 ta, .int .i64 tb, S tc] 53)).alloc (.cells #[S sFalse, S sTrue, S sNull] 9)))
    go_wp2_with fail
    go_loopw [27] (fun i wr => ∃ j : Nat, j ≤ 3 ∧ i = .int .i64 (j : Int) ∧ Hid (FrP W wr bs) ∧ Hid (Strm wr bs g cap ts k) ∧ Hid (wr.heap[w1.heap.size + 1]? = some (.cells #[S sFalse, S sTrue, S sNull] 9 (0, 0))) ∧
        Hid (constR ts k [(sFalse, 0), (sTrue, 1), (sNull, 2)] = constR ts k ([(sFalse, 0), (sTrue, 1), (sNull, 2)].drop j))) (fun i _ => 3 - (intOf i).toNat)
    case atStart => exact ⟨0, by omega, rfl, HF1'.out, HS1'.out, heap_new' _ _ (by simp), rfl⟩
    case round =>
      clear HF1' HS1' p0
      obtain ⟨j, hj, rfl, HF, HS, HL, HK⟩ := hrel
      have p0 := cells1 HF.out.r
      by_cases hlt : j < 3
      · have HKj := Lib.hid (econst_drop (ts := ts) (k := k) hlt)
        have c : wr.cell? ⟨w1.heap.size + 1, j, none⟩ = some (S (econsts[j]'hlt)) := by
          rw [Lib.cell_of_heap HL.out]
          match j, hlt with
          | 0, _ => rfl
          | 1, _ => rfl
          | 2, _ => rfl
        have hzl := (Array.getElem?_eq_some_iff.1 HL.out).1
        generalize econsts[j]'hlt = s at *
        have hlt' : (j : Int) < 3 := by omega
        cases ht : takeK ts k [s] with
        | some k' =>
          have HRG := Lib.hid (show R = .good k' (valE (ofK (j : Int), ofN (j : Int), [])) from by rw [HRF.out, HK.out, HKj.out, ht])
          have HTK := Lib.hid ht
          clear ht
          go_wp2_with fail
          refine (etake_yes HS.out [s] HTK.out _ 1 _ _ rfl rfl (by simp) (by simp)).mono ?_
          rintro e w2 ⟨rfl, hg2, hs2⟩
          have HF2 := Lib.hid (HF.out.next hbl hg2)
          have HS2 := Lib.hid hs2
          clear hg2 hs2 p0
          go_wp2_with fail
          (with_reducible refine (Of_any (j : Int) (by omega) (by omega) _).mono ?_)
          rintro e w3 ⟨rfl, hb3⟩
          have HF3 := Lib.hid (HF2.out.bl hb3)
          have HS3 := Lib.hid (HS2.out.bl hb3)
          obtain ⟨⟨i0, i1, i2, i3, i4, i5, i6, i7⟩, f0, f1, f3, f4, f5, f6, f7, f8⟩ := eight HF3.out.x
          clear hb3
          go_wp2
          -- the answer's place is loaded and answered
          obtain ⟨⟨q0, q1, q2, q3, q4, q5, q6, q7⟩, -⟩ := eight (set8_heap (HF3.out).x (.int .i64 1) (.int .i64 (ofK (j : Int))) (.int .i64 (ofN (j : Int))) (S []) (S []) (S []) (.int .i64 0) (.slice none 0 0))
          refine bodyPost_ret (v := .agg #[.int .i64 1, .int .i64 (ofK (j : Int)), .int .i64 (ofN (j : Int)), S [], S [], S [], .int .i64 0, .slice none 0 0]) (by simp [results, Tryz.results140, go_sem, q0, q1, q2, q3, q4, q5, q6, q7]) rfl ?_
          exact HF3.out.fin (ya := []) hbl hgl HS3.out (ReadsP.nil _ _ _ _) HRG.out
        | none =>
          have HKK := Lib.hid (show constR ts k [(sFalse, 0), (sTrue, 1), (sNull, 2)] = constR ts k ([(sFalse, 0), (sTrue, 1), (sNull, 2)].drop (j + 1)) from by rw [HK.out, HKj.out, ht])
          have HTK := Lib.hid ht
          clear ht
          go_wp2_with fail
          refine (etake_no HS.out [s] HTK.out _ 1 _ _ rfl rfl (by simp) (by simp)).mono ?_
          rintro e w2 ⟨rfl, hg2, hs2⟩
          have HF2 := Lib.hid (HF.out.next hbl hg2)
          have HS2 := Lib.hid hs2
          have HL2 := Lib.hid ((hg2.block _ hzl (fun e => by injection e with e; omega)).trans HL.out)
          clear hg2 hs2 p0
          go_wp2
          go_roundw
          case rel => exact ⟨j + 1, by omega, by go_num, HF2.out, HS2.out, HL2.out, HKK.out⟩
          case measure => simp [intOf]; omega
      · obtain rfl : j = 3 := by omega
        have hK3 : constR ts k [(sFalse, 0), (sTrue, 1), (sNull, 2)] = none := by rw [HK.out]; rfl
        have hRf := HRF.out
        rw [hK3] at hRf
        simp only at hRf
        clear hK3 HK HL hlt
        cases ht : takeK ts k [[40]] with
        | some k' =>
          rw [ht] at hRf
          have HRG := Lib.hid hRf
          have HTK := Lib.hid ht
          have HN2 := Lib.hid (bind_out (show _ from by have := HNE.out; rw [hRf] at this; exact this))
          clear hRf ht
          go_wp2_with fail
          refine (etake_yes HS.out [[40]] HTK.out _ 1 _ _ rfl rfl (by simp) (by simp)).mono ?_
          rintro e w2 ⟨rfl, hg2, hs2⟩
          have HF2 := Lib.hid (HF.out.next hbl hg2)
          have HS2 := Lib.hid hs2
          clear hg2 hs2 p0
          have p0 := cells1 HF2.out.r
          go_wp2_with fail
          refine (edeeper_any HR.out HS2.out HT.out hd _ rfl HN2.out).mono ?_
          intro e w3 hp
          obtain ⟨hg3, k3, hs3, hcase⟩ := hp.open
          clear hp p0
          have HF3 := Lib.hid (HF2.out.next hbl hg3)
          have hz2 := HF2.out.size
          have HS3 := Lib.hid hs3
          rcases hcase with ⟨yk, y1, y2, y3, yt, yn, yo, ya, ysv, ycv, hr3, hA, rfl⟩ | ⟨c, hc, hr3, rfl⟩
          · have hR3 : R = match takeK ts k3 [[41]] with
              | some k4 => .good k4 (.mk yk (y1, y2, y3) yt yn yo ya)
              | none => .bad 261 := by rw [HRG.out]; (try simp only); rw [hr3]; rfl
            have HA3 := Lib.hid (show ReadsP (fun b => W.heap.size + 2 ≤ b) w3 (.slice ysv ya.length ycv) ya from hA.of fun b _ (hb : _ ≤ b) => by omega)
            clear hg3 hs3 hr3 hA
            have p0 := cells1 HF3.out.r
            have HX3 := Lib.hid (heap_new w3 (.cells #[.int .i64 yk, .int .i64 y1, .int .i64 y2, S y3, S yt, S yn, .int .i64 yo, .slice ysv ya.length ycv] 30))
            have hz3 := HF3.out.size
            have pz3 : W.heap.size < w3.heap.size := by omega
            cases ht2 : takeK ts k3 [[41]] with
            | some k4 =>
              rw [ht2] at hR3
              have HR4 := Lib.hid hR3
              have HT2 := Lib.hid ht2
              clear hR3 ht2
              go_wp2_with fail
              refine (etake_yes (HS3.out.bl ((Bl.refl w3).alloc _)) [[41]] HT2.out _ 1 _ _ rfl rfl (by simp) (by simp)).mono ?_
              rintro e w4 ⟨rfl, hg4, hs4⟩
              have HF4 := Lib.hid ((HF3.out.bl ((Bl.refl w3).alloc _)).next hbl hg4)
              have HS4 := Lib.hid hs4
              have HA4 := Lib.hid ((HA3.out.bl ((Bl.refl w3).alloc _)).grown hg4 (fun h => by omega))
              have HX4 := Lib.hid ((hg4.block w3.heap.size (by simp) (fun e => by injection e with e; omega)).trans HX3.out)
              clear hg4 hs4 p0
              go_wp2_with fail
              (with_reducible refine (emust_yes _ _).mono ?_)
              rintro e w5 ⟨rfl, rfl⟩
              obtain ⟨⟨e0, e1, e2, e3, e4, e5, e6, e7⟩, -⟩ := eight HX4.out
              obtain ⟨⟨i0, i1, i2, i3, i4, i5, i6, i7⟩, f0, f1, f3, f4, f5, f6, f7, f8⟩ := eight HF4.out.x
              go_wp2
              -- the answer's place is loaded and answered
              obtain ⟨⟨q0, q1, q2, q3, q4, q5, q6, q7⟩, -⟩ := eight (set8_heap (HF4.out).x (.int .i64 yk) (.int .i64 y1) (.int .i64 y2) (S y3) (S yt) (S yn) (.int .i64 yo) (.slice ysv ya.length ycv))
              refine bodyPost_ret (v := .agg #[.int .i64 yk, .int .i64 y1, .int .i64 y2, S y3, S yt, S yn, .int .i64 yo, .slice ysv ya.length ycv]) (by simp [results, Tryz.results140, go_sem, q0, q1, q2, q3, q4, q5, q6, q7]) rfl ?_
              exact HF4.out.fin hbl hgl HS4.out HA4.out HR4.out
            | none =>
              rw [ht2] at hR3
              have HR4 := Lib.hid hR3
              have HT2 := Lib.hid ht2
              clear hR3 ht2
              go_wp2_with fail
              refine (etake_no (HS3.out.bl ((Bl.refl w3).alloc _)) [[41]] HT2.out _ 1 _ _ rfl rfl (by simp) (by simp)).mono ?_
              rintro e w4 ⟨rfl, hg4, hs4⟩
              have HF4 := Lib.hid ((HF3.out.bl ((Bl.refl w3).alloc _)).next hbl hg4)
              have HS4 := Lib.hid hs4
              clear hg4 hs4 p0
              go_wp2_with fail
              (with_reducible refine (emust_no _ _).mono ?_)
              rintro e w5 ⟨rfl, rfl⟩
              go_wp2
              exact ⟨rfl, XPost.no HF4.out.grown HS4.out (.inr rfl) HR4.out⟩
          · have HR4 := Lib.hid (show R = .bad c from by rw [HRG.out]; (try simp only); rw [hr3]; rfl)
            clear hg3 hs3 hr3
            go_wp2
            exact ⟨rfl, XPost.no HF3.out.grown HS3.out hc HR4.out⟩
        | none =>
          rw [ht] at hRf
          simp only at hRf
          have HTK := Lib.hid ht
          clear ht
          cases hn : nameK ts k with
          | none =>
            rw [hn] at hRf
            have HRG := Lib.hid hRf
            have HN := Lib.hid hn
            clear hRf hn
            go_wp2_with fail
            refine (etake_no HS.out [[40]] HTK.out _ 1 _ _ rfl rfl (by simp) (by simp)).mono ?_
            rintro e w2 ⟨rfl, hg2, hs2⟩
            have HF2 := Lib.hid (HF.out.next hbl hg2)
            have HS2 := Lib.hid hs2
            clear hg2 hs2 p0
            have p0 := cells1 HF2.out.r
            go_wp2_with fail
            (with_reducible refine (name_no HS2.out HN.out).mono ?_)
            rintro e w3 ⟨rfl, hg3, hs3⟩
            have HF3 := Lib.hid (HF2.out.next hbl hg3)
            have HS3 := Lib.hid hs3
            clear hg3 hs3 p0
            go_wp2_with fail
            (with_reducible refine (emust_no _ _).mono ?_)
            rintro e w5 ⟨rfl, rfl⟩
            go_wp2
            exact ⟨rfl, XPost.no HF3.out.grown HS3.out (.inr rfl) HRG.out⟩
          | some q =>
            obtain ⟨nm, k1⟩ := q
            rw [hn] at hRf
            simp only at hRf
            have HRf := Lib.hid hRf
            have HN := Lib.hid hn
            clear hn hRf
            go_wp2_with fail
            refine (etake_no HS.out [[40]] HTK.out _ 1 _ _ rfl rfl (by simp) (by simp)).mono ?_
            rintro e w2 ⟨rfl, hg2, hs2⟩
            have HF2 := Lib.hid (HF.out.next hbl hg2)
            have HS2 := Lib.hid hs2
            clear hg2 hs2 p0
            have p0 := cells1 HF2.out.r
            go_wp2_with fail
            (with_reducible refine (name_yes HS2.out HN.out).mono ?_)
            rintro e w3 ⟨rfl, hg3, hs3⟩
            have HF3 := Lib.hid (HF2.out.next hbl hg3)
            have HS3 := Lib.hid hs3
            clear hg3 hs3 p0
            have p0 := cells1 HF3.out.r
            go_wp2_with fail
            (with_reducible refine (emust_yes _ _).mono ?_)
            rintro e w5 ⟨rfl, rfl⟩
            cases ht1 : takeK ts k1 [[40]] with
            | some k2 =>
              have hRf := HRf.out
              rw [ht1] at hRf
              have HRG := Lib.hid hRf
              have HT1 := Lib.hid ht1
              clear hRf ht1
              go_wp2_with fail
              refine (etake_yes HS3.out [[40]] HT1.out _ 1 _ _ rfl rfl (by simp) (by simp)).mono ?_
              rintro e w4 ⟨rfl, hg4, hs4⟩
              have HF4 := Lib.hid (HF3.out.next hbl hg4)
              have HS4 := Lib.hid hs4
              have hz4 := HF4.out.size
              clear hg4 hs4 p0
              have p0 := cells1 HF4.out.r
              go_wp2_with fail
              refine (HC.out _ bs g cap ts nm k2 d HS4.out HT.out hd (by have := HNE.out; rw [HRG.out] at this; exact this)).mono ?_
              rw [← HRG.out]
              intro e w6 hp
              obtain ⟨hg6, k6, hs6, hcase⟩ := hp.open
              clear hp p0
              have HF6 := Lib.hid (HF4.out.next hbl hg6)
              have HS6 := Lib.hid hs6
              rcases hcase with ⟨yk, y1, y2, y3, yt, yn, yo, ya, ysv, ycv, hr6, hA, rfl⟩ | ⟨c, hc, hr6, rfl⟩
              · have HR6 := Lib.hid hr6
                have HA6 := Lib.hid (show ReadsP (fun b => W.heap.size + 2 ≤ b) w6 (.slice ysv ya.length ycv) ya from hA.of fun b _ (hb : _ ≤ b) => by omega)
                obtain ⟨⟨e0, e1, e2, e3, e4, e5, e6, e7⟩, f0, f1, f3, f4, f5, f6, f7, f8⟩ := eight HF6.out.x
                clear hg6 hs6 hr6 hA
                go_wp2
                -- the answer's place is loaded and answered
                obtain ⟨⟨q0, q1, q2, q3, q4, q5, q6, q7⟩, -⟩ := eight (set8_heap (HF6.out).x (.int .i64 yk) (.int .i64 y1) (.int .i64 y2) (S y3) (S yt) (S yn) (.int .i64 yo) (.slice ysv ya.length ycv))
                refine bodyPost_ret (v := .agg #[.int .i64 yk, .int .i64 y1, .int .i64 y2, S y3, S yt, S yn, .int .i64 yo, .slice ysv ya.length ycv]) (by simp [results, Tryz.results140, go_sem, q0, q1, q2, q3, q4, q5, q6, q7]) rfl ?_
                exact HF6.out.fin hbl hgl HS6.out HA6.out HR6.out
              · have HR6 := Lib.hid hr6
                clear hg6 hs6 hr6
                go_wp2
                exact ⟨rfl, XPost.no HF6.out.grown HS6.out hc HR6.out⟩
            | none =>
              have hRf := HRf.out
              clear HRf
              rw [ht1] at hRf
              simp only at hRf
              have HRf := Lib.hid hRf
              have HT1 := Lib.hid ht1
              clear ht1 hRf
              go_wp2_with fail
              refine (etake_no HS3.out [[40]] HT1.out _ 1 _ _ rfl rfl (by simp) (by simp)).mono ?_
              rintro e w4 ⟨rfl, hg4, hs4⟩
              have HF4 := Lib.hid (HF3.out.next hbl hg4)
              have HS4 := Lib.hid hs4
              clear hg4 hs4 p0
              have p0 := cells1 HF4.out.r
              cases ht2 : takeK ts k1 [[46]] with
              | some k2 =>
                have hRf := HRf.out
                clear HRf
                rw [ht2] at hRf
                simp only at hRf
                have HRf := Lib.hid hRf
                have HT2 := Lib.hid ht2
                clear ht2 hRf
                go_wp2_with fail
                refine (etake_yes HS4.out [[46]] HT2.out _ 1 _ _ rfl rfl (by simp) (by simp)).mono ?_
                rintro e w6 ⟨rfl, hg6, hs6⟩
                have HF6 := Lib.hid (HF4.out.next hbl hg6)
                have HS6 := Lib.hid hs6
                clear hg6 hs6 p0
                have p0 := cells1 HF6.out.r
                cases hn2 : nameK ts k2 with
                | none =>
                  have hRf := HRf.out
                  rw [hn2] at hRf
                  have HRG := Lib.hid hRf
                  have HN2 := Lib.hid hn2
                  clear hRf hn2
                  go_wp2_with fail
                  (with_reducible refine (name_no HS6.out HN2.out).mono ?_)
                  rintro e w7 ⟨rfl, hg7, hs7⟩
                  have HF7 := Lib.hid (HF6.out.next hbl hg7)
                  have HS7 := Lib.hid hs7
                  clear hg7 hs7 p0
                  go_wp2_with fail
                  (with_reducible refine (emust_no _ _).mono ?_)
                  rintro e w8 ⟨rfl, rfl⟩
                  go_wp2
                  exact ⟨rfl, XPost.no HF7.out.grown HS7.out (.inr rfl) HRG.out⟩
                | some q =>
                  obtain ⟨cn, k3⟩ := q
                  have hRf := HRf.out
                  rw [hn2] at hRf
                  have HRG := Lib.hid hRf
                  have HN2 := Lib.hid hn2
                  clear hRf hn2
                  go_wp2_with fail
                  (with_reducible refine (name_yes HS6.out HN2.out).mono ?_)
                  rintro e w7 ⟨rfl, hg7, hs7⟩
                  have HF7 := Lib.hid (HF6.out.next hbl hg7)
                  have HS7 := Lib.hid hs7
                  clear hg7 hs7 p0
                  go_wp2_with fail
                  (with_reducible refine (emust_yes _ _).mono ?_)
                  rintro e w8 ⟨rfl, rfl⟩
                  obtain ⟨⟨e0, e1, e2, e3, e4, e5, e6, e7⟩, f0, f1, f3, f4, f5, f6, f7, f8⟩ := eight HF7.out.x
                  go_wp2
                  -- the answer's place is loaded and answered
                  obtain ⟨⟨q0, q1, q2, q3, q4, q5, q6, q7⟩, -⟩ := eight (set8_heap (HF7.out).x (.int .i64 2) (.int .i64 0) (.int .i64 0) (S []) (S nm) (S cn) (.int .i64 0) (.slice none 0 0))
                  refine bodyPost_ret (v := .agg #[.int .i64 2, .int .i64 0, .int .i64 0, S [], S nm, S cn, .int .i64 0, .slice none 0 0]) (by simp [results, Tryz.results140, go_sem, q0, q1, q2, q3, q4, q5, q6, q7]) rfl ?_
                  exact HF7.out.fin (ya := []) hbl hgl HS7.out (ReadsP.nil _ _ _ _) HRG.out
              | none =>
                have hRf := HRf.out
                rw [ht2] at hRf
                have HRG := Lib.hid hRf
                have HT2 := Lib.hid ht2
                clear hRf ht2
                go_wp2_with fail
                refine (etake_no HS4.out [[46]] HT2.out _ 1 _ _ rfl rfl (by simp) (by simp)).mono ?_
                rintro e w6 ⟨rfl, hg6, hs6⟩
                have HF6 := Lib.hid (HF4.out.next hbl hg6)
                have HS6 := Lib.hid hs6
                clear hg6 hs6 p0
                obtain ⟨⟨e0, e1, e2, e3, e4, e5, e6, e7⟩, f0, f1, f3, f4, f5, f6, f7, f8⟩ := eight HF6.out.x
                go_wp2
                -- the answer's place is loaded and answered
                obtain ⟨⟨q0, q1, q2, q3, q4, q5, q6, q7⟩, -⟩ := eight (set8_heap (HF6.out).x (.int .i64 2) (.int .i64 0) (.int .i64 0) (S []) (S []) (S nm) (.int .i64 0) (.slice none 0 0))
                refine bodyPost_ret (v := .agg #[.int .i64 2, .int .i64 0, .int .i64 0, S [], S [], S nm, .int .i64 0, .slice none 0 0]) (by simp [results, Tryz.results140, go_sem, q0, q1, q2, q3, q4, q5, q6, q7]) rfl ?_
                exact HF6.out.fin (ya := []) hbl hgl HS6.out (ReadsP.nil _ _ _ _) HRG.out
--END1

end Go.Proofs.YtepkfkfedmbmnaaGreatDoor

