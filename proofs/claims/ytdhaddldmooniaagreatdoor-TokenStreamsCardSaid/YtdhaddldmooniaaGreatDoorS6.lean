/- The reference's Take. -/
import Derived.Test.YtdhaddldmooniaaGreatDoorS5
import Derived.Test.YtdhaddldmooniaaGreatDoorPR
namespace Go.Proofs.YtdhaddldmooniaaGreatDoor
open Go.RowKit
set_option maxRecDepth 100000

def takeEnd (g cap : Nat) (ts : List Tok) (k : Nat) (xs : List (List UInt8)) : Ending := match takeK ts k xs with
  | some k' => .returned (.tuple #[RS g ts.length cap k', .bool true])
  | none => .returned (.tuple #[RS g ts.length cap k, .bool false])

theorem keep4 {w A B : World} {p0 p1 p2 : Addr} {v0 v1 v2 : Value} (h : A.cell? p0 = some v0 ∧ A.cell? p1 = some v1 ∧ A.cell? p2 = some v2 ∧ Bl w A) (hb : Bl A B) : B.cell? p0 = some v0 ∧ B.cell? p1 = some v1 ∧ B.cell? p2 = some v2 ∧ Bl w B :=
  ⟨hb.cell h.1, hb.cell h.2.1, hb.cell h.2.2.1, h.2.2.2.call hb⟩

set_option maxHeartbeats 4000000 in
theorem rTake_any {W : World} {g cap k : Nat} {ts : List Tok} (h : Row W g ts) (hfew : ts.length ≤ 100000) (hk : k < ts.length) (sv : Value) (xs : List (List UInt8)) (hxs : Strs W sv xs) (hm : xs.length ≤ 1000000) :
    Calls Tryz.prog 16 #[RS g ts.length cap k, sv] W fun e w' => e = takeEnd g cap ts k xs ∧ Bl W w' := by
  have H := Lib.hid h
  obtain ⟨a, capx, rfl, hxc⟩ := hxs.shape
  have HXC := Lib.hid hxc
  clear h hxs hxc
  go_enter Tryz.func16, Tryz.ntmps16
  go_wp2_with fail
  go_loopw [7] (fun i wr => ∃ (j k' : Nat), j ≤ xs.length ∧ i = .int .i64 (j : Int) ∧ k' < ts.length ∧ Hid (takeK ts k (xs.take j) = some k') ∧ Bl W wr ∧
    Hid (wr.heap[W.heap.size]? = some (.cells #[.slice (some ⟨g, 0, none⟩) ts.length cap, .int .i64 (k : Int)] 44 (0, 0))) ∧ Hid (wr.heap[W.heap.size + 1]? = some (.cells #[.slice none 0 0, .int .i64 0] 44 (0, 0))) ∧
    Hid (wr.heap[W.heap.size + 2]? = some (.cells #[.slice (some ⟨g, 0, none⟩) ts.length cap, .int .i64 (k' : Int)] 44 (0, 0)))) (fun i _ => xs.length - (intOf i).toNat)
  case atStart =>
    exact ⟨0, k, Nat.zero_le _, rfl, hk, rfl, (((Bl.refl W).alloc _).alloc _).alloc _, three_0 _ _ _ _, three_1 _ _ _ _, heap_new' _ _ (by simp)⟩
  case round =>
    obtain ⟨j, k', hj, rfl, hk', HT, hB, HA, HZ, HR⟩ := hrel
    obtain ⟨x, hx⟩ : ∃ x, ts[k']? = some x := ⟨_, List.getElem?_eq_getElem hk'⟩
    have HX := Lib.hid hx
    clear hx
    by_cases hlt : j < xs.length
    · obtain ⟨b, off, rfl, hcell⟩ := HXC.out j hlt
      have hc := hB.cell hcell
      have hc' := (Bl.refl wr).drew.cell hc
      obtain ⟨r0, r1, z0, z1, hlr⟩ := cells2 HR.out
      have HIs : Hid (∀ W', Bl W W' → Calls Tryz.prog 27 #[RS g ts.length cap k', S xs[j]] W' fun e w' => e = .returned (.bool (isB x xs[j])) ∧ Bl W' w') := fun W' hb => rIs15_any (H.out.bl hb) hfew HX.out _
      have HS := Lib.hid (show _ ∧ _ ∧ _ ∧ Bl W wr.drew from ⟨(Bl.refl wr).drew.cell r0, (Bl.refl wr).drew.cell r1, hc', hB.drew⟩)
      have hbd := Lib.hid ((Bl.refl wr).drew)
      clear hcell hc hc' r0 r1 z0 z1
      generalize hsj : xs[j] = sj at *
      have HSJ := Lib.hid hsj
      clear hsj
      cases hi : isB x sj
      all_goals
        have HI := Lib.hid hi
        clear hi
        go_wp2_with fail
        refine wp_region_noPanic (wp_region_sched (fun w' => w'.cell? ⟨W.heap.size + 2, 0, none⟩ = some (.slice (some ⟨g, 0, none⟩) ts.length cap) ∧ w'.cell? ⟨W.heap.size + 2, 1, none⟩ = some (.int .i64 (k' : Int)) ∧ w'.cell? ⟨b, off + j, none⟩ = some (S sj) ∧ Bl W w') [(0, true), (1, true), (2, true), (3, true), (4, true), (5, false), (6, true)] (by kernel_rfl) rfl (by kernel_rfl) (by kernel_rfl) (fun _ _ _ _ _ h => h) HS.out ?_)
        have hHeld := HS.out
        refine sched_take rfl (by rfl) (by intro w hSw; (try dsimp only at hSw); go_simp; (try with_reducible rfl)) ?_; (try simp only [Act.put, List.setIfInBounds_toArray, List.set_cons_zero, List.set_cons_succ, List.getElem_toArray, List.getElem_cons_zero, List.getElem_cons_succ])
        refine sched_take rfl (by rfl) (by intro w hSw; (try dsimp only at hSw); go_simp; (try with_reducible rfl)) ?_; (try simp only [Act.put, List.setIfInBounds_toArray, List.set_cons_zero, List.set_cons_succ, List.getElem_toArray, List.getElem_cons_zero, List.getElem_cons_succ])
        refine sched_take rfl (by rfl) (by intro w hSw; (try dsimp only at hSw); go_simp; (try with_reducible rfl)) ?_; (try simp only [Act.put, List.setIfInBounds_toArray, List.set_cons_zero, List.set_cons_succ, List.getElem_toArray, List.getElem_cons_zero, List.getElem_cons_succ])
        refine sched_take rfl (by rfl) (by intro w hSw; (try dsimp only at hSw); go_simp; (try with_reducible rfl)) ?_; (try simp only [Act.put, List.setIfInBounds_toArray, List.set_cons_zero, List.set_cons_succ, List.getElem_toArray, List.getElem_cons_zero, List.getElem_cons_succ])
        refine sched_take rfl (by rfl) (by intro w hSw; (try dsimp only at hSw); go_simp; (try with_reducible rfl)) ?_; (try simp only [Act.put, List.setIfInBounds_toArray, List.set_cons_zero, List.set_cons_succ, List.getElem_toArray, List.getElem_cons_zero, List.getElem_cons_succ])
        refine sched_call rfl (fun K hK => ?_); go_simp; ((with_reducible refine (HIs.out _ hHeld.2.2.2).mono ?_); rintro e w' ⟨rfl, hb⟩; rw [HI.out]; have HB2 := Lib.hid (hbd.out.call hb)); go_wp2_with fail; refine hK.out _ _ (keep4 hHeld hb) (fun hHeld2 => ?_); clear hHeld hK K; have hHeld := hHeld2; clear hHeld2
        refine sched_take rfl (by rfl) (by intro w hSw; (try dsimp only at hSw); go_simp; (try with_reducible rfl)) ?_; (try simp only [Act.put, List.setIfInBounds_toArray, List.set_cons_zero, List.set_cons_succ, List.getElem_toArray, List.getElem_cons_zero, List.getElem_cons_succ])
        refine sched_nil (NoPanic.normal ?_)
        have hBw : Bl W w' := hHeld.2.2.2
        have hA := HB2.out.block _ (Array.getElem?_eq_some_iff.1 HA.out).1
        clear hHeld hb HS
      · have hAA := hA.trans HA.out
        have hZZ := (HB2.out.block _ (Array.getElem?_eq_some_iff.1 HZ.out).1).trans HZ.out
        obtain ⟨a0, a1, -, -, -⟩ := cells2 hAA
        obtain ⟨r0, r1, z0, z1, hlz⟩ := cells2 hZZ
        have HS5 := Lib.hid (heap_two _ (W.heap.size + 1) (.slice none 0 0) (.int .i64 0) (.slice (some ⟨g, 0, none⟩) ts.length cap) (.int .i64 (k : Int)) 44 hZZ)
        have HB5 := Lib.hid (bl_two hBw (b := W.heap.size + 1) (by omega) (.slice (some ⟨g, 0, none⟩) ts.length cap) (.int .i64 (k : Int)))
        have HE : Hid (takeEnd g cap ts k xs = .returned (.tuple #[RS g ts.length cap k, .bool false])) := by
          show takeEnd g cap ts k xs = _
          unfold takeEnd
          rw [takeK_stop hlt HT.out HX.out (by rw [HSJ.out]; exact HI.out)]
        clear hAA hZZ hA
        go_wp2_with fail
        obtain ⟨q0, q1, f0, f1, hl5⟩ := cells2 HS5.out
        exact bodyPost_ret (v := .tuple #[RS g ts.length cap k, .bool false]) (by simp [results, Tryz.results16, go_sem, q0, q1]) rfl ⟨HE.out.symm, HB5.out⟩
      · have hRR := (HB2.out.block _ (Array.getElem?_eq_some_iff.1 HR.out).1).trans HR.out
        have hZZ := (HB2.out.block _ (Array.getElem?_eq_some_iff.1 HZ.out).1).trans HZ.out
        have HAA := Lib.hid (hA.trans HA.out)
        have HZZ := Lib.hid hZZ
        have HRR := Lib.hid hRR
        obtain ⟨r0, r1, z0, z1, hlz⟩ := cells2 hRR
        have hlA : W.heap.size < w'.heap.size := (Array.getElem?_eq_some_iff.1 HAA.out).1
        clear hRR hZZ hA
        go_wp2_with fail
        (with_reducible refine (rNext_any hk' hfew).mono ?_)
        rintro e w2 ⟨rfl, hb⟩
        have hR2 := (hb.block _ hlz).trans HRR.out
        have HA2 := Lib.hid ((hb.block _ hlA).trans HAA.out)
        have HZ2 := Lib.hid ((hb.block _ (by omega)).trans HZZ.out)
        have HB3 := Lib.hid (hBw.call hb)
        have HS5 := Lib.hid (heap_two _ (W.heap.size + 2) _ _ (.slice (some ⟨g, 0, none⟩) ts.length cap) (.int .i64 (nextK ts.length k' : Int)) 44 hR2)
        clear r0 r1 z0 z1
        obtain ⟨r0, r1, z0, z1, hlz2⟩ := cells2 hR2
        clear hR2 hb hBw
        have hlt' : (j : Int) < (xs.length : Int) := by omega
        go_wp2
        go_roundw
        case rel => exact ⟨j + 1, nextK ts.length k', by omega, by go_num, nextK_lt hk', takeK_step hlt HT.out HX.out (by rw [HSJ.out]; exact HI.out), bl_two HB3.out (by omega) _ _, (heap_two_other _ (by omega) _ _).trans HA2.out, (heap_two_other _ (by omega) _ _).trans HZ2.out, HS5.out⟩
        case measure => simp [intOf]; omega
    · obtain rfl : j = xs.length := by omega
      have HE : Hid (takeEnd g cap ts k xs = .returned (.tuple #[RS g ts.length cap k', .bool true])) := by
        show takeEnd g cap ts k xs = _
        unfold takeEnd
        have := HT.out
        rw [List.take_length] at this
        rw [this]
      obtain ⟨a0, a1, -, -, -⟩ := cells2 HR.out
      obtain ⟨r0, r1, z0, z1, hlz⟩ := cells2 HZ.out
      have HS5 := Lib.hid (heap_two _ (W.heap.size + 1) (.slice none 0 0) (.int .i64 0) (.slice (some ⟨g, 0, none⟩) ts.length cap) (.int .i64 (k' : Int)) 44 HZ.out)
      have HB5 := Lib.hid (bl_two hB (b := W.heap.size + 1) (by omega) (.slice (some ⟨g, 0, none⟩) ts.length cap) (.int .i64 (k' : Int)))
      go_wp2_with fail
      obtain ⟨q0, q1, f0, f1, hl5⟩ := cells2 HS5.out
      exact bodyPost_ret (v := .tuple #[RS g ts.length cap k', .bool true]) (by simp [results, Tryz.results16, go_sem, q0, q1]) rfl ⟨HE.out.symm, HB5.out⟩

end Go.Proofs.YtdhaddldmooniaaGreatDoor
