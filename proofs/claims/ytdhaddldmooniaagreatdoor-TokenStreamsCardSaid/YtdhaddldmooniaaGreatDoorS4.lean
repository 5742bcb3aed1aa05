/- The reference's streams: Name. -/
import Derived.Test.YtdhaddldmooniaaGreatDoorS5
import Derived.Test.YtdhaddldmooniaaGreatDoorPR
namespace Go.Proofs.YtdhaddldmooniaaGreatDoor
open Go.RowKit
set_option maxRecDepth 100000

def RNamePost (W : World) (g n cap k : Nat) (x : Tok) (e : Ending) (w' : World) : Prop :=
  Bl W w' ∧ ((isName1 x = true ∧ e = .returned (.tuple #[RS g n cap (nextK n k), S x.t, .bool true])) ∨ (isName1 x = false ∧ e = .returned (.tuple #[RS g n cap k, S [], .bool false])))

theorem keep3 {w A B : World} {p0 p1 p2 : Addr} {v0 v1 v2 : Value} (h : A.cell? p0 = some v0 ∧ A.cell? p1 = some v1 ∧ A.cell? p2 = some v2 ∧ Bl w A) (hb : Bl A B) : B.cell? p0 = some v0 ∧ B.cell? p1 = some v1 ∧ B.cell? p2 = some v2 ∧ Bl w B :=
  ⟨hb.cell h.1, hb.cell h.2.1, hb.cell h.2.2.1, h.2.2.2.call hb⟩

set_option maxHeartbeats 4000000 in
theorem rName_any {W : World} {g cap k : Nat} {ts : List Tok} (h : Row W g ts) (hfew : ts.length ≤ 100000) {x : Tok} (hx : ts[k]? = some x) : Calls Tryz.prog 15 #[RS g ts.length cap k] W (RNamePost W g ts.length cap k x) := by
  have hkl := (List.getElem?_eq_some_iff.1 hx).1
  have H := Lib.hid (h.bl (((Bl.refl W).alloc (.cells #[.slice (some ⟨g, 0, none⟩) ts.length cap, .int .i64 (k : Int)] 44)).alloc (.cells #[.slice none 0 0, .int .i64 0] 44)))
  have HX := Lib.hid hx
  have hA0 := (heap_old (W.alloc (.cells #[.slice (some ⟨g, 0, none⟩) ts.length cap, .int .i64 (k : Int)] 44)) (.cells #[.slice none 0 0, .int .i64 0] 44) (by simp)).trans (heap_new W (.cells #[.slice (some ⟨g, 0, none⟩) ts.length cap, .int .i64 (k : Int)] 44))
  have hR0 : ((W.alloc (.cells #[.slice (some ⟨g, 0, none⟩) ts.length cap, .int .i64 (k : Int)] 44)).alloc (.cells #[.slice none 0 0, .int .i64 0] 44)).heap[W.heap.size + 1]? = _ := heap_new' _ _ (by simp)
  clear h hx
  go_enter Tryz.func15, Tryz.ntmps15
  go_wp2_with fail
  (with_reducible refine (rPeek_any H.out hfew HX.out).mono ?_)
  rintro e w1 ⟨rfl, hb1⟩
  have hA1 := (hb1.block _ (by simp; omega)).trans hA0
  have hR1 := (hb1.block _ (by simp)).trans hR0
  have hB : Bl W w1 := (((Bl.refl W).alloc _).alloc _).call hb1
  obtain ⟨xk, xp, xt, xa, xb, xc⟩ := x
  have hT2 := heap_new w1 (.cells #[.int .i64 xk, .int .i64 (xp : Int), S xt, .int .i64 xa, .int .i64 xb, S xc] 34)
  have hA2 := (heap_old w1 (.cells #[.int .i64 xk, .int .i64 (xp : Int), S xt, .int .i64 xa, .int .i64 xb, S xc] 34) (Array.getElem?_eq_some_iff.1 hA1).1).trans hA1
  have hR2 := (heap_old w1 (.cells #[.int .i64 xk, .int .i64 (xp : Int), S xt, .int .i64 xa, .int .i64 xb, S xc] 34) (Array.getElem?_eq_some_iff.1 hR1).1).trans hR1
  have hB0 := hB
  have hB2 := hB.alloc (.cells #[.int .i64 xk, .int .i64 (xp : Int), S xt, .int .i64 xa, .int .i64 xb, S xc] 34)
  have hz : W.heap.size + 1 < w1.heap.size := (Array.getElem?_eq_some_iff.1 hR1).1
  clear hA0 hR0 hb1 hB
  by_cases hk1 : xk = 1
  · subst hk1
    cases hkw : kwB xt
    · have HN : Hid (isName1 ⟨1, xp, xt, (xa, xb, xc)⟩ = true) := by show _ = _; simp [isName1, hkw]
      have HKW := Lib.hid hkw
      clear hkw hA1 hR1
      go_wp2_with (first
        | (go_at_call 19; (with_reducible refine (rKeyword_any xt _).mono ?_); rintro e w2 ⟨rfl, hb3⟩; rw [HKW.out]))
      have hT3 := (hb3.block _ (by simp)).trans hT2
      have hA3 := (hb3.block _ (by simp; omega)).trans hA2
      have hR3 := (hb3.block _ (by simp; omega)).trans hR2
      have hB3 := hB2.call hb3
      clear hb3 hT2 hA2 hR2 hB2
      obtain ⟨a0, a1, -, -, hla⟩ := cells2 hA3
      obtain ⟨r0, r1, z0, z1, hlr⟩ := cells2 hR3
      have t2 : w2.cell? ⟨w1.heap.size, 2, none⟩ = some (S xt) := by rw [Lib.cell_of_heap hT3]; rfl
      have HS := Lib.hid (keep3 ⟨a0, a1, t2, hB3⟩ ((Bl.refl w2).drew))
      have HR3 := Lib.hid hR3
      clear hA3 hT3 hR3
      have hNx : ∀ W', Calls Tryz.prog 13 #[RS g ts.length cap k] W' fun e w' => e = .returned (RS g ts.length cap (nextK ts.length k)) ∧ Bl W' w' := fun W' => rNext_any hkl hfew
      have HNx := Lib.hid hNx
      have hB3d : Bl w2 w2.drew := (Bl.refl w2).drew
      clear hNx
      go_wp2_with fail
      refine wp_region_noPanic (wp_region_sched (fun w' => w'.cell? ⟨W.heap.size, 0, none⟩ = some (.slice (some ⟨g, 0, none⟩) ts.length cap) ∧ w'.cell? ⟨W.heap.size, 1, none⟩ = some (.int .i64 (k : Int)) ∧ w'.cell? ⟨w1.heap.size, 2, none⟩ = some (S xt) ∧ Bl W w') [(0, true), (2, true), (3, true), (1, false), (4, false), (5, true), (6, true)] (by kernel_rfl) rfl (by kernel_rfl) (by kernel_rfl) (fun _ _ _ _ _ h => h) HS.out ?_)
      have hHeld := HS.out
      refine sched_take rfl (by rfl) (by intro w hSw; (try dsimp only at hSw); go_simp; (try with_reducible rfl)) ?_; (try simp only [Act.put, List.setIfInBounds_toArray, List.set_cons_zero, List.set_cons_succ, List.getElem_toArray, List.getElem_cons_zero, List.getElem_cons_succ])
      refine sched_take rfl (by rfl) (by intro w hSw; (try dsimp only at hSw); go_simp; (try with_reducible rfl)) ?_; (try simp only [Act.put, List.setIfInBounds_toArray, List.set_cons_zero, List.set_cons_succ, List.getElem_toArray, List.getElem_cons_zero, List.getElem_cons_succ])
      refine sched_take rfl (by rfl) (by intro w hSw; (try dsimp only at hSw); go_simp; (try with_reducible rfl)) ?_; (try simp only [Act.put, List.setIfInBounds_toArray, List.set_cons_zero, List.set_cons_succ, List.getElem_toArray, List.getElem_cons_zero, List.getElem_cons_succ])
      refine sched_call rfl (fun K hK => ?_); go_simp; ((with_reducible refine (HNx.out _).mono ?_); rintro e w' ⟨rfl, hb⟩); go_wp2_with fail; refine hK.out _ _ (keep3 hHeld hb) (fun hHeld2 => ?_); clear hHeld hK K; have hHeld := hHeld2; clear hHeld2
      have hR4 : w'.heap[W.heap.size + 1]? = some (.cells #[.slice none 0 0, .int .i64 0] 44 (0, 0)) := (hb.block _ (by show _ < w2.heap.size; omega)).trans HR3.out
      have hBw : Bl W w' := hHeld.2.2.2
      have hA := hHeld.1
      have hA' := hHeld.2.1
      have hA2 := hHeld.2.2.1
      obtain ⟨q0, q1, f0, f1, hl4⟩ := cells2 hR4
      have hne : w1.heap.size ≠ W.heap.size + 1 := by omega
      have HS5 := Lib.hid (heap_two w' (W.heap.size + 1) (.slice none 0 0) (.int .i64 0) (.slice (some ⟨g, 0, none⟩) ts.length cap) (.int .i64 (nextK ts.length k : Int)) 44 hR4)
      have HB5 := Lib.hid (bl_two hBw (b := W.heap.size + 1) (by omega) (.slice (some ⟨g, 0, none⟩) ts.length cap) (.int .i64 (nextK ts.length k : Int)))
      clear hb hR4 hBw
      refine sched_call rfl (fun K hK => ?_); go_simp; refine hK.out _ _ (⟨set_apart (set_apart hA (by simp)) (by simp), set_apart (set_apart hA' (by simp)) (by simp), set_apart (set_apart hA2 hne) hne, HB5.out⟩) (fun hHeld2 => ?_); clear hHeld hK K; have hHeld := hHeld2; clear hHeld2
      clear q0 q1 f0 f1
      obtain ⟨q0, q1, f0, f1, hl5⟩ := cells2 HS5.out
      refine sched_take rfl (by rfl) (by intro w hSw; (try dsimp only at hSw); go_simp; (try with_reducible rfl)) ?_; (try simp only [Act.put, List.setIfInBounds_toArray, List.set_cons_zero, List.set_cons_succ, List.getElem_toArray, List.getElem_cons_zero, List.getElem_cons_succ])
      refine sched_take rfl (by rfl) (by intro w hSw; (try dsimp only at hSw); go_simp; (try with_reducible rfl)) ?_; (try simp only [Act.put, List.setIfInBounds_toArray, List.set_cons_zero, List.set_cons_succ, List.getElem_toArray, List.getElem_cons_zero, List.getElem_cons_succ])
      refine sched_nil (NoPanic.normal ?_)
      go_wp2_with fail
      exact bodyPost_ret (v := .tuple #[RS g ts.length cap (nextK ts.length k), S xt, .bool true]) (by simp [results, Tryz.results15, go_sem, q0, q1]) rfl ⟨HB5.out, .inl ⟨HN.out, rfl⟩⟩
    · have HN : Hid (isName1 ⟨1, xp, xt, (xa, xb, xc)⟩ = false) := by show _ = _; simp [isName1, hkw]
      have HKW := Lib.hid hkw
      clear hkw hR1
      go_wp2_with fail
      (with_reducible refine (rKeyword_any xt _).mono ?_)
      rintro e w2 ⟨rfl, hb3⟩
      rw [HKW.out]
      have hA3 := (hb3.block _ (by simp; omega)).trans hA2
      have hR3 := (hb3.block _ (by simp; omega)).trans hR2
      have hB3 := hB2.call hb3
      clear hb3 hT2 hA2 hR2 hB2
      obtain ⟨a0, a1, -, -, hla⟩ := cells2 hA3
      obtain ⟨r0, r1, z0, z1, hlr⟩ := cells2 hR3
      have HS5 := Lib.hid (heap_two w2 (W.heap.size + 1) (.slice none 0 0) (.int .i64 0) (.slice (some ⟨g, 0, none⟩) ts.length cap) (.int .i64 (k : Int)) 44 hR3)
      have HB5 := Lib.hid (bl_two hB3 (b := W.heap.size + 1) (by omega) (.slice (some ⟨g, 0, none⟩) ts.length cap) (.int .i64 (k : Int)))
      clear hA3 hR3 hA1
      go_wp2_with fail
      obtain ⟨q0, q1, f0, f1, hl5⟩ := cells2 HS5.out
      exact bodyPost_ret (v := .tuple #[RS g ts.length cap k, S [], .bool false]) (by simp [results, Tryz.results15, go_sem, q0, q1]) rfl ⟨HB5.out, .inr ⟨HN.out, rfl⟩⟩
  · have hkb : (xk != 1) = true := by simpa using hk1
    have hkb' : (xk == 1) = false := by simpa using hk1
    have HN : Hid (isName1 ⟨xk, xp, xt, (xa, xb, xc)⟩ = false) := by show _ = _; simp [isName1, hk1]
    clear hk1
    obtain ⟨a0, a1, -, -, hla⟩ := cells2 hA1
    obtain ⟨r0, r1, z0, z1, hlr⟩ := cells2 hR1
    have HS5 := Lib.hid (heap_two _ (W.heap.size + 1) (.slice none 0 0) (.int .i64 0) (.slice (some ⟨g, 0, none⟩) ts.length cap) (.int .i64 (k : Int)) 44 hR1)
    have HB5 := Lib.hid ((bl_two hB0 (b := W.heap.size + 1) (by omega) (.slice (some ⟨g, 0, none⟩) ts.length cap) (.int .i64 (k : Int))).alloc (.cells #[.int .i64 xk, .int .i64 (xp : Int), S xt, .int .i64 xa, .int .i64 xb, S xc] 34))
    clear hT2 hA2 hR2 hA1 hR1
    go_wp2_with fail
    have hS6 := (heap_old _ (.cells #[.int .i64 xk, .int .i64 (xp : Int), S xt, .int .i64 xa, .int .i64 xb, S xc] 34) (Array.getElem?_eq_some_iff.1 HS5.out).1).trans HS5.out
    obtain ⟨q0, q1, f0, f1, hl5⟩ := cells2 hS6
    exact bodyPost_ret (v := .tuple #[RS g ts.length cap k, S [], .bool false]) (by simp only [results, Tryz.results15]; simp [go_sem, q0, q1]) rfl ⟨HB5.out, .inr ⟨HN.out, rfl⟩⟩

end Go.Proofs.YtdhaddldmooniaaGreatDoor
