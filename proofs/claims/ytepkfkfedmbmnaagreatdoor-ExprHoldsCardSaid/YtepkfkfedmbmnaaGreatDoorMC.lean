/- The reference's level. The reference's taken. The reference's read: too deep; not and sign. The reference's read: a level with operators between. -/
import Derived.Test.YtepkfkfedmbmnaaGreatDoorX1
import Derived.Test.YtepkfkfedmbmnaaGreatDoorMX
import Derived.Deep.CutBlock
namespace Go.Proofs.YtepkfkfedmbmnaaGreatDoor
open Go.RowKit
set_option maxRecDepth 100000

theorem ints_block {W : World} {b : Nat} {l : List Int} {t : TypeId} (n : Nat) (hn : n = l.length) (h : W.heap[b]? = some (.cells (l.map fun i => Value.int .i64 i).toArray t (0, 0))) : IntsA W (.slice (some ⟨b, 0, none⟩) n n) l := by
  subst hn
  refine ⟨_, l.length, rfl, fun j hj => ⟨b, 0, rfl, ?_⟩⟩
  rw [Lib.cell_of_heap h]
  simp [hj]
def LevelPost (n : Nat) (w : World) (e : Ending) (w' : World) : Prop := ∃ sv, e = .returned sv ∧ IntsA w' sv (levelOps n) ∧ Bl w w' ∧ ∀ a m c, sv = .slice (some a) m c → w.heap.size ≤ a.block
set_option maxHeartbeats 4000000 in
theorem xlevel_any (n : Nat) (hn : n ≤ 6) (w : World) : Calls Tryz.prog 96 #[.int .i64 n] w (LevelPost n w) := by
  have h7 : n = 0 ∨ n = 1 ∨ n = 2 ∨ n = 3 ∨ n = 4 ∨ n = 5 ∨ n = 6 := by omega
  rcases h7 with rfl | rfl | rfl | rfl | rfl | rfl | rfl
  all_goals
    clear hn
    go_enter Tryz.func96, Tryz.ntmps96
    go_wp2
    go_ret
    first
      | exact ⟨_, rfl, ⟨none, 0, rfl, fun j hj => by simp [levelOps] at hj⟩, Bl.refl w, fun a m c e => by cases e⟩
      | exact ⟨_, rfl, ints_block _ rfl (heap_new w _), (Bl.refl w).alloc _, fun a m c e => by injection e with e; injection e with e; subst e; exact Nat.le_refl _⟩

end Go.Proofs.YtepkfkfedmbmnaaGreatDoor

namespace Go.Proofs.YtepkfkfedmbmnaaGreatDoor
open Go.RowKit
set_option maxRecDepth 100000

def takenEnd (g cap : Nat) (ts : List Tok) (k : Nat) (l : List Int) : Ending := match takenK ts k l with
  | some (o, k') => .returned (.tuple #[RS g ts.length cap k', .int .i64 o])
  | none => .returned (.tuple #[RS g ts.length cap k, .int .i64 0])
theorem taken_drop {ts : List Tok} {k : Nat} {l : List Int} {i : Nat} (hi : i < l.length) : takenK ts k (l.drop i) = match takeK ts k [opName l[i]] with
    | some k' => some (l[i], k')
    | none => takenK ts k (l.drop (i + 1)) := by
  rw [List.drop_eq_getElem_cons hi]
  rfl
/-- What stands in a frame of taken: the stream, the answer's place, the operators. -/
structure FrT (W w' : World) (g n cap k : Nat) (sv : Value) (l : List Int) : Prop where
  bl : Bl W w'
  s : w'.heap[W.heap.size]? = some (.cells #[.slice (some ⟨g, 0, none⟩) n cap, .int .i64 (k : Int)] 46 (0, 0))
  r : w'.heap[W.heap.size + 1]? = some (.cells #[.slice none 0 0, .int .i64 0] 46 (0, 0))
  ints : IntsA w' sv l
  far : ∀ a m c, sv = .slice (some a) m c → W.heap.size + 1 < a.block
theorem FrT.next {W A B : World} {g n cap k : Nat} {sv : Value} {l : List Int} (h : FrT W A g n cap k sv l) (hb : Bl A B) : FrT W B g n cap k sv l :=
  ⟨h.bl.call hb, (hb.block _ (Array.getElem?_eq_some_iff.1 h.s).1).trans h.s, (hb.block _ (Array.getElem?_eq_some_iff.1 h.r).1).trans h.r, h.ints.bl hb, h.far⟩

theorem yInfo_agg (o : Int) (w : World) : Calls Tryz.prog 47 #[.int .i64 o] w fun e w' => e = .returned (.agg #[S (opName o), .int .i64 (opMany o : Int), .int .i64 (opOf o), .int .i64 (opMakes o)]) ∧ Bl w w' := yInfo_any o w

set_option maxHeartbeats 4000000 in
theorem xtaken_any {W : World} {g cap k n : Nat} {ts : List Tok} (h : Row W g ts) (hfew : ts.length ≤ 100000) (hk : k < ts.length) (hn : n ≤ 6) : Calls Tryz.prog 67 #[RS g ts.length cap k, .int .i64 n] W fun e w' => e = takenEnd g cap ts k (levelOps n) ∧ Bl W w' := by
  have H := Lib.hid h
  clear h
  obtain ⟨l, hlv⟩ : ∃ l, l = levelOps n := ⟨_, rfl⟩
  rw [← hlv]
  go_enter Tryz.func67, Tryz.ntmps67
  go_wp2_with fail
  (with_reducible refine (xlevel_any n hn _).mono ?_)
  rintro e w1 ⟨sv, rfl, hI, hb1, hfar⟩
  rw [← hlv] at hI
  have hl : l.length ≤ 10 := by
    rw [hlv]
    have h7 : n = 0 ∨ n = 1 ∨ n = 2 ∨ n = 3 ∨ n = 4 ∨ n = 5 ∨ n = 6 := by omega
    rcases h7 with rfl | rfl | rfl | rfl | rfl | rfl | rfl <;> simp [levelOps]
  clear hlv
  have HF := Lib.hid (show FrT W w1 g ts.length cap k sv l from ⟨(((Bl.refl W).alloc _).alloc _).call hb1, (hb1.block _ (by simp; omega)).trans ((heap_old _ _ (by simp)).trans (heap_new _ _)), (hb1.block _ (by simp)).trans (heap_new' _ _ (by simp)), hI, fun a m c e => by have := hfar a m c e; simp at this; omega⟩)
  obtain ⟨a, capl, rfl, hil⟩ := hI
  clear hil hb1
  go_wp2_with fail
  go_loopw [7] (fun i wr => ∃ j : Nat, j ≤ l.length ∧ i = .int .i64 (j : Int) ∧ Hid (takenK ts k l = takenK ts k (l.drop j)) ∧ Hid (FrT W wr g ts.length cap k (.slice a l.length capl) l)) (fun i _ => l.length - (intOf i).toNat)
  case atStart => exact ⟨0, Nat.zero_le _, rfl, rfl, HF⟩
  case round =>
    obtain ⟨j, hj, rfl, HD, HF⟩ := hrel
    by_cases hlt : j < l.length
    · have HDj := Lib.hid (taken_drop (ts := ts) (k := k) hlt)
      obtain ⟨a', capl', ea, hc⟩ := HF.out.ints
      obtain ⟨rfl, rfl⟩ : a = a' ∧ capl = capl' := by simpa using ea
      obtain ⟨b, off, rfl, c⟩ := hc j hlt
      obtain ⟨s0, s1, -, -, hls⟩ := cells2 HF.out.s
      clear hc ea
      have HY := Lib.hid (show ∀ B : World, IntsA B (.slice (some ⟨b, off, none⟩) l.length capl) l → B.cell? ⟨b, off + j, none⟩ = some (.int .i64 l[j]) from fun B hI => by
        obtain ⟨a2, c2, e2, h2⟩ := hI
        obtain ⟨b2, o2, e3, h3⟩ := h2 j hlt
        subst e3
        obtain ⟨⟨rfl, rfl⟩, rfl⟩ : (b = b2 ∧ off = o2) ∧ capl = c2 := by simpa using e2
        exact h3)
      generalize hy : l[j] = y at *
      clear hy
      go_upto_region 5 with fail
      go_cut [8, 9] from 18 to 29 (fun p t wc => ∃ A : Nat, p = .pointer (some ⟨A, 0, none⟩) ∧ W.heap.size + 1 < A ∧ FrT W wc g ts.length cap k (.slice (some ⟨b, off, none⟩) l.length capl) l ∧
        ((∃ k', takeK ts k [opName y] = some k' ∧ t = .bool true ∧ wc.heap[A]? = some (.cells #[.slice (some ⟨g, 0, none⟩) ts.length cap, .int .i64 (k' : Int)] 46 (0, 0))) ∨ (takeK ts k [opName y] = none ∧ t = .bool false)))
      case first =>
        have HMK := Lib.hid (show ∀ B, Bl wr B → (B.cell? ⟨W.heap.size, 0, none⟩ = some (.slice (some ⟨g, 0, none⟩) ts.length cap) ∧ B.cell? ⟨W.heap.size, 1, none⟩ = some (.int .i64 (k : Int)) ∧ B.cell? ⟨b, off + j, none⟩ = some (.int .i64 y) ∧ Bl wr B) from fun B h => ⟨h.cell s0, h.cell s1, h.cell c, h⟩)
        have HBW := Lib.hid HF.out.bl
        have hrs : W.heap.size + 1 < wr.heap.size := (Array.getElem?_eq_some_iff.1 HF.out.r).1
        have hd0 : Bl wr wr.drew := (Bl.refl wr).drew
        have hds : wr.drew.heap.size = wr.heap.size := rfl
        clear s0 s1 c
        cases ht : takeK ts k [opName y]
        all_goals
          have HT := Lib.hid ht
          have HTE := Lib.hid (show takeEnd g cap ts k [opName y] = _ by unfold takeEnd; rw [ht])
          clear ht
          refine wp_region_noPanic (wp_region_sc (fun B => B.cell? ⟨W.heap.size, 0, none⟩ = some (.slice (some ⟨g, 0, none⟩) ts.length cap) ∧ B.cell? ⟨W.heap.size, 1, none⟩ = some (.int .i64 (k : Int)) ∧ B.cell? ⟨b, off + j, none⟩ = some (.int .i64 y) ∧ Bl wr B) ((.take 0 (.take 1 (.take 2 (.take 3 (.take 4 (.two 5 12 (.take 6 (.two 7 12 (.two 8 12 (.take 9 (.take 10 (.take 11 (.one 12 (.one 13 (.take 14 .done)))))) (.one 8 (.take 9 (.take 10 (.take 11 (.one 13 (.take 14 .done))))))) (.one 7 (.one 8 (.take 9 (.take 10 (.take 11 (.one 13 (.take 14 .done))))))))) (.one 5 (.take 6 (.one 7 (.one 8 (.take 9 (.take 10 (.take 11 (.one 13 (.take 14 .done)))))))))))))))) (by kernel_rfl) (by kernel_rfl) (by kernel_rfl) (fun _ _ _ _ _ h => h) (HMK.out _ hd0) ?_)
          have hHeld := HMK.out _ hd0
          refine sc_take' rfl (by rfl) (by intro w hSw; (try dsimp only at hSw); go_simp; (try (first | with_reducible rfl | rfl))) ?_; (try simp only [Act.put, List.setIfInBounds_toArray, List.set_cons_zero, List.set_cons_succ])
          refine sc_take' rfl (by rfl) (by intro w hSw; (try dsimp only at hSw); go_simp; (try (first | with_reducible rfl | rfl))) ?_; (try simp only [Act.put, List.setIfInBounds_toArray, List.set_cons_zero, List.set_cons_succ])
          refine sc_take' rfl (by rfl) (by intro w hSw; (try dsimp only at hSw); go_simp; (try (first | with_reducible rfl | rfl))) ?_; (try simp only [Act.put, List.setIfInBounds_toArray, List.set_cons_zero, List.set_cons_succ])
          refine sc_take' rfl (by rfl) (by intro w hSw; (try dsimp only at hSw); go_simp; (try (first | with_reducible rfl | rfl))) ?_; (try simp only [Act.put, List.setIfInBounds_toArray, List.set_cons_zero, List.set_cons_succ])
          refine sc_take' rfl (by rfl) (by intro w hSw; (try dsimp only at hSw); go_simp; (try (first | with_reducible rfl | rfl))) ?_; (try simp only [Act.put, List.setIfInBounds_toArray, List.set_cons_zero, List.set_cons_succ])
          refine sc_two ?_ ?_
          focus
            refine sc_call' rfl (fun K hK => ?_); go_simp; ((with_reducible refine (yInfo_agg y _).mono ?_); rintro e w5 ⟨rfl, hb⟩; have hb5 := hb; have hs5 := hb.size); go_wp2_with fail; refine hK.out _ _ (HMK.out _ (hHeld.2.2.2.call hb)) (fun hHeld2 => ?_); clear hHeld hK K; have hHeld := hHeld2; clear hHeld2
            try (have hA5 : w5.heap[wr.heap.size]? = some (.cells #[.slice none 0 0, .int .i64 0] 46 (0, 0)) := (hb5.block _ (by simp)).trans (heap_new wr.drew _))
            refine sc_take' rfl (by rfl) (by intro w hSw; (try dsimp only at hSw); go_simp; (try (first | with_reducible rfl | rfl))) ?_; (try simp only [Act.put, List.setIfInBounds_toArray, List.set_cons_zero, List.set_cons_succ])
            refine sc_two ?_ ?_
            focus
              refine sc_call' rfl (fun K hK => ?_); go_simp; refine hK.out _ _ ((HMK.out _ (hHeld.2.2.2.alloc _))) (fun hHeld2 => ?_); clear hHeld hK K; have hHeld := hHeld2; clear hHeld2
              refine sc_two ?_ ?_
              focus
                refine sc_call' rfl (fun K hK => ?_); go_simp; (refine (rTake_any (H.out.bl (HBW.out.call hHeld.2.2.2)) hfew hk _ [opName y] (by first | exact strs_block 1 rfl (heap_new _ _) | exact strs_block 1 rfl (heap_new' _ _ (by simp)) | exact strs_block 1 rfl ((heap_old _ _ (by simp)).trans (heap_new _ _))) (by simp)).mono ?_; rintro e w8 ⟨rfl, hb⟩; have hb8 := hb; have hs8 := hb.size; rw [HTE.out]); go_wp2_with fail; refine hK.out _ _ (HMK.out _ (hHeld.2.2.2.call hb)) (fun hHeld2 => ?_); clear hHeld hK K; have hHeld := hHeld2; clear hHeld2
                have hB8 := hHeld.2.2.2
                have hz8 := hB8.size
                refine sc_take' rfl (by rfl) (by intro w hSw; (try dsimp only at hSw); go_simp; (try (first | with_reducible rfl | rfl))) ?_; (try simp only [Act.put, List.setIfInBounds_toArray, List.set_cons_zero, List.set_cons_succ])
                refine sc_take' rfl (by rfl) (by intro w hSw; (try dsimp only at hSw); go_simp; (try (first | with_reducible rfl | rfl))) ?_; (try simp only [Act.put, List.setIfInBounds_toArray, List.set_cons_zero, List.set_cons_succ])
                refine sc_take' rfl (by rfl) (by intro w hSw; (try dsimp only at hSw); go_simp; (try (first | with_reducible rfl | rfl))) ?_; (try simp only [Act.put, List.setIfInBounds_toArray, List.set_cons_zero, List.set_cons_succ])
                refine sc_call' rfl (fun K hK => ?_); go_simp; refine hK.out _ _ ((HMK.out _ (hHeld.2.2.2.alloc _))) (fun hHeld2 => ?_); clear hHeld hK K; have hHeld := hHeld2; clear hHeld2
                first | (have hA : w8.heap[w5.heap.size + 1]? = some (.cells #[.slice none 0 0, .int .i64 0] 46 (0, 0)) := (hb8.block _ (by simp)).trans (heap_new' _ _ (by simp))) | (have hA : w8.heap[w5.heap.size]? = some (.cells #[.slice none 0 0, .int .i64 0] 46 (0, 0)) := (hb8.block _ (by simp; omega)).trans ((heap_old _ _ (by simp)).trans (heap_new _ _))) | (have hA : w8.heap[wr.heap.size]? = some (.cells #[.slice none 0 0, .int .i64 0] 46 (0, 0)) := (hb8.block _ (by rw [World.size_alloc]; have := (Array.getElem?_eq_some_iff.1 hA5).1; omega)).trans ((heap_old _ _ (Array.getElem?_eq_some_iff.1 hA5).1).trans hA5)) | skip
                try (have hq := cells2 hA; obtain ⟨q0, q1, f0, f1, hlq⟩ := hq)
                refine sc_call' rfl (fun K hK => ?_); go_simp; refine hK.out _ _ ((by first | exact HMK.out _ (bl_set2 hB8 (by omega) _ _) | exact HMK.out _ (hB8.alloc _))) (fun hHeld2 => ?_); clear hHeld hK K; have hHeld := hHeld2; clear hHeld2
                refine sc_take' rfl (by rfl) (by intro w hSw; (try dsimp only at hSw); go_simp; (try (first | with_reducible rfl | rfl))) ?_; (try simp only [Act.put, List.setIfInBounds_toArray, List.set_cons_zero, List.set_cons_succ])
                refine sc_nil (NoPanic.normal ?_)
                try clear q0 q1 f0 f1
                go_wp2_with fail
                go_meet
                case rel => first | exact ⟨_, rfl, by omega, HF.out.next (bl_set2 hB8 (by omega) _ _), .inr ⟨HT.out, rfl⟩⟩ | exact ⟨_, rfl, by omega, HF.out.next (bl_set2 hB8 (by omega) _ _), .inl ⟨_, HT.out, rfl, set2_heap hA _ _⟩⟩ | exact ⟨_, rfl, by omega, HF.out.next (hB8.alloc _), .inr ⟨HT.out, rfl⟩⟩ | exact ⟨_, rfl, by omega, HF.out.next (hB8.alloc _), .inl ⟨_, HT.out, rfl, heap_new _ _⟩⟩
              rotate_left 1
              focus
                refine sc_call' rfl (fun K hK => ?_); go_simp; refine hK.out _ _ ((HMK.out _ (hHeld.2.2.2.alloc _))) (fun hHeld2 => ?_); clear hHeld hK K; have hHeld := hHeld2; clear hHeld2
                refine sc_call' rfl (fun K hK => ?_); go_simp; (refine (rTake_any (H.out.bl (HBW.out.call hHeld.2.2.2)) hfew hk _ [opName y] (by first | exact strs_block 1 rfl (heap_new _ _) | exact strs_block 1 rfl (heap_new' _ _ (by simp)) | exact strs_block 1 rfl ((heap_old _ _ (by simp)).trans (heap_new _ _))) (by simp)).mono ?_; rintro e w8 ⟨rfl, hb⟩; have hb8 := hb; have hs8 := hb.size; rw [HTE.out]); go_wp2_with fail; refine hK.out _ _ (HMK.out _ (hHeld.2.2.2.call hb)) (fun hHeld2 => ?_); clear hHeld hK K; have hHeld := hHeld2; clear hHeld2
                have hB8 := hHeld.2.2.2
                have hz8 := hB8.size
                refine sc_take' rfl (by rfl) (by intro w hSw; (try dsimp only at hSw); go_simp; (try (first | with_reducible rfl | rfl))) ?_; (try simp only [Act.put, List.setIfInBounds_toArray, List.set_cons_zero, List.set_cons_succ])
                refine sc_take' rfl (by rfl) (by intro w hSw; (try dsimp only at hSw); go_simp; (try (first | with_reducible rfl | rfl))) ?_; (try simp only [Act.put, List.setIfInBounds_toArray, List.set_cons_zero, List.set_cons_succ])
                refine sc_take' rfl (by rfl) (by intro w hSw; (try dsimp only at hSw); go_simp; (try (first | with_reducible rfl | rfl))) ?_; (try simp only [Act.put, List.setIfInBounds_toArray, List.set_cons_zero, List.set_cons_succ])
                first | (have hA : w8.heap[w5.heap.size + 1]? = some (.cells #[.slice none 0 0, .int .i64 0] 46 (0, 0)) := (hb8.block _ (by simp)).trans (heap_new' _ _ (by simp))) | (have hA : w8.heap[w5.heap.size]? = some (.cells #[.slice none 0 0, .int .i64 0] 46 (0, 0)) := (hb8.block _ (by simp; omega)).trans ((heap_old _ _ (by simp)).trans (heap_new _ _))) | (have hA : w8.heap[wr.heap.size]? = some (.cells #[.slice none 0 0, .int .i64 0] 46 (0, 0)) := (hb8.block _ (by rw [World.size_alloc]; have := (Array.getElem?_eq_some_iff.1 hA5).1; omega)).trans ((heap_old _ _ (Array.getElem?_eq_some_iff.1 hA5).1).trans hA5)) | skip
                try (have hq := cells2 hA; obtain ⟨q0, q1, f0, f1, hlq⟩ := hq)
                refine sc_call' rfl (fun K hK => ?_); go_simp; refine hK.out _ _ ((by first | exact HMK.out _ (bl_set2 hB8 (by omega) _ _) | exact HMK.out _ (hB8.alloc _))) (fun hHeld2 => ?_); clear hHeld hK K; have hHeld := hHeld2; clear hHeld2
                refine sc_take' rfl (by rfl) (by intro w hSw; (try dsimp only at hSw); go_simp; (try (first | with_reducible rfl | rfl))) ?_; (try simp only [Act.put, List.setIfInBounds_toArray, List.set_cons_zero, List.set_cons_succ])
                refine sc_nil (NoPanic.normal ?_)
                try clear q0 q1 f0 f1
                go_wp2_with fail
                go_meet
                case rel => first | exact ⟨_, rfl, by omega, HF.out.next (bl_set2 hB8 (by omega) _ _), .inr ⟨HT.out, rfl⟩⟩ | exact ⟨_, rfl, by omega, HF.out.next (bl_set2 hB8 (by omega) _ _), .inl ⟨_, HT.out, rfl, set2_heap hA _ _⟩⟩ | exact ⟨_, rfl, by omega, HF.out.next (hB8.alloc _), .inr ⟨HT.out, rfl⟩⟩ | exact ⟨_, rfl, by omega, HF.out.next (hB8.alloc _), .inl ⟨_, HT.out, rfl, heap_new _ _⟩⟩
            rotate_left 2
            focus
              refine sc_call' rfl (fun K hK => ?_); go_simp; refine hK.out _ _ ((HMK.out _ (hHeld.2.2.2.alloc _))) (fun hHeld2 => ?_); clear hHeld hK K; have hHeld := hHeld2; clear hHeld2
              refine sc_call' rfl (fun K hK => ?_); go_simp; refine hK.out _ _ ((HMK.out _ (hHeld.2.2.2.alloc _))) (fun hHeld2 => ?_); clear hHeld hK K; have hHeld := hHeld2; clear hHeld2
              refine sc_call' rfl (fun K hK => ?_); go_simp; (refine (rTake_any (H.out.bl (HBW.out.call hHeld.2.2.2)) hfew hk _ [opName y] (by first | exact strs_block 1 rfl (heap_new _ _) | exact strs_block 1 rfl (heap_new' _ _ (by simp)) | exact strs_block 1 rfl ((heap_old _ _ (by simp)).trans (heap_new _ _))) (by simp)).mono ?_; rintro e w8 ⟨rfl, hb⟩; have hb8 := hb; have hs8 := hb.size; rw [HTE.out]); go_wp2_with fail; refine hK.out _ _ (HMK.out _ (hHeld.2.2.2.call hb)) (fun hHeld2 => ?_); clear hHeld hK K; have hHeld := hHeld2; clear hHeld2
              have hB8 := hHeld.2.2.2
              have hz8 := hB8.size
              refine sc_take' rfl (by rfl) (by intro w hSw; (try dsimp only at hSw); go_simp; (try (first | with_reducible rfl | rfl))) ?_; (try simp only [Act.put, List.setIfInBounds_toArray, List.set_cons_zero, List.set_cons_succ])
              refine sc_take' rfl (by rfl) (by intro w hSw; (try dsimp only at hSw); go_simp; (try (first | with_reducible rfl | rfl))) ?_; (try simp only [Act.put, List.setIfInBounds_toArray, List.set_cons_zero, List.set_cons_succ])
              refine sc_take' rfl (by rfl) (by intro w hSw; (try dsimp only at hSw); go_simp; (try (first | with_reducible rfl | rfl))) ?_; (try simp only [Act.put, List.setIfInBounds_toArray, List.set_cons_zero, List.set_cons_succ])
              first | (have hA : w8.heap[w5.heap.size + 1]? = some (.cells #[.slice none 0 0, .int .i64 0] 46 (0, 0)) := (hb8.block _ (by simp)).trans (heap_new' _ _ (by simp))) | (have hA : w8.heap[w5.heap.size]? = some (.cells #[.slice none 0 0, .int .i64 0] 46 (0, 0)) := (hb8.block _ (by simp; omega)).trans ((heap_old _ _ (by simp)).trans (heap_new _ _))) | (have hA : w8.heap[wr.heap.size]? = some (.cells #[.slice none 0 0, .int .i64 0] 46 (0, 0)) := (hb8.block _ (by rw [World.size_alloc]; have := (Array.getElem?_eq_some_iff.1 hA5).1; omega)).trans ((heap_old _ _ (Array.getElem?_eq_some_iff.1 hA5).1).trans hA5)) | skip
              try (have hq := cells2 hA; obtain ⟨q0, q1, f0, f1, hlq⟩ := hq)
              refine sc_call' rfl (fun K hK => ?_); go_simp; refine hK.out _ _ ((by first | exact HMK.out _ (bl_set2 hB8 (by omega) _ _) | exact HMK.out _ (hB8.alloc _))) (fun hHeld2 => ?_); clear hHeld hK K; have hHeld := hHeld2; clear hHeld2
              refine sc_take' rfl (by rfl) (by intro w hSw; (try dsimp only at hSw); go_simp; (try (first | with_reducible rfl | rfl))) ?_; (try simp only [Act.put, List.setIfInBounds_toArray, List.set_cons_zero, List.set_cons_succ])
              refine sc_nil (NoPanic.normal ?_)
              try clear q0 q1 f0 f1
              go_wp2_with fail
              go_meet
              case rel => first | exact ⟨_, rfl, by omega, HF.out.next (bl_set2 hB8 (by omega) _ _), .inr ⟨HT.out, rfl⟩⟩ | exact ⟨_, rfl, by omega, HF.out.next (bl_set2 hB8 (by omega) _ _), .inl ⟨_, HT.out, rfl, set2_heap hA _ _⟩⟩ | exact ⟨_, rfl, by omega, HF.out.next (hB8.alloc _), .inr ⟨HT.out, rfl⟩⟩ | exact ⟨_, rfl, by omega, HF.out.next (hB8.alloc _), .inl ⟨_, HT.out, rfl, heap_new _ _⟩⟩
          rotate_left 3
          focus
            refine sc_call' rfl (fun K hK => ?_); go_simp; refine hK.out _ _ ((HMK.out _ (hHeld.2.2.2.alloc _))) (fun hHeld2 => ?_); clear hHeld hK K; have hHeld := hHeld2; clear hHeld2
            refine sc_call' rfl (fun K hK => ?_); go_simp; ((with_reducible refine (yInfo_agg y _).mono ?_); rintro e w5 ⟨rfl, hb⟩; have hb5 := hb; have hs5 := hb.size); go_wp2_with fail; refine hK.out _ _ (HMK.out _ (hHeld.2.2.2.call hb)) (fun hHeld2 => ?_); clear hHeld hK K; have hHeld := hHeld2; clear hHeld2
            try (have hA5 : w5.heap[wr.heap.size]? = some (.cells #[.slice none 0 0, .int .i64 0] 46 (0, 0)) := (hb5.block _ (by simp)).trans (heap_new wr.drew _))
            refine sc_take' rfl (by rfl) (by intro w hSw; (try dsimp only at hSw); go_simp; (try (first | with_reducible rfl | rfl))) ?_; (try simp only [Act.put, List.setIfInBounds_toArray, List.set_cons_zero, List.set_cons_succ])
            refine sc_call' rfl (fun K hK => ?_); go_simp; refine hK.out _ _ ((HMK.out _ (hHeld.2.2.2.alloc _))) (fun hHeld2 => ?_); clear hHeld hK K; have hHeld := hHeld2; clear hHeld2
            refine sc_call' rfl (fun K hK => ?_); go_simp; (refine (rTake_any (H.out.bl (HBW.out.call hHeld.2.2.2)) hfew hk _ [opName y] (by first | exact strs_block 1 rfl (heap_new _ _) | exact strs_block 1 rfl (heap_new' _ _ (by simp)) | exact strs_block 1 rfl ((heap_old _ _ (by simp)).trans (heap_new _ _))) (by simp)).mono ?_; rintro e w8 ⟨rfl, hb⟩; have hb8 := hb; have hs8 := hb.size; rw [HTE.out]); go_wp2_with fail; refine hK.out _ _ (HMK.out _ (hHeld.2.2.2.call hb)) (fun hHeld2 => ?_); clear hHeld hK K; have hHeld := hHeld2; clear hHeld2
            have hB8 := hHeld.2.2.2
            have hz8 := hB8.size
            refine sc_take' rfl (by rfl) (by intro w hSw; (try dsimp only at hSw); go_simp; (try (first | with_reducible rfl | rfl))) ?_; (try simp only [Act.put, List.setIfInBounds_toArray, List.set_cons_zero, List.set_cons_succ])
            refine sc_take' rfl (by rfl) (by intro w hSw; (try dsimp only at hSw); go_simp; (try (first | with_reducible rfl | rfl))) ?_; (try simp only [Act.put, List.setIfInBounds_toArray, List.set_cons_zero, List.set_cons_succ])
            refine sc_take' rfl (by rfl) (by intro w hSw; (try dsimp only at hSw); go_simp; (try (first | with_reducible rfl | rfl))) ?_; (try simp only [Act.put, List.setIfInBounds_toArray, List.set_cons_zero, List.set_cons_succ])
            first | (have hA : w8.heap[w5.heap.size + 1]? = some (.cells #[.slice none 0 0, .int .i64 0] 46 (0, 0)) := (hb8.block _ (by simp)).trans (heap_new' _ _ (by simp))) | (have hA : w8.heap[w5.heap.size]? = some (.cells #[.slice none 0 0, .int .i64 0] 46 (0, 0)) := (hb8.block _ (by simp; omega)).trans ((heap_old _ _ (by simp)).trans (heap_new _ _))) | (have hA : w8.heap[wr.heap.size]? = some (.cells #[.slice none 0 0, .int .i64 0] 46 (0, 0)) := (hb8.block _ (by rw [World.size_alloc]; have := (Array.getElem?_eq_some_iff.1 hA5).1; omega)).trans ((heap_old _ _ (Array.getElem?_eq_some_iff.1 hA5).1).trans hA5)) | skip
            try (have hq := cells2 hA; obtain ⟨q0, q1, f0, f1, hlq⟩ := hq)
            refine sc_call' rfl (fun K hK => ?_); go_simp; refine hK.out _ _ ((by first | exact HMK.out _ (bl_set2 hB8 (by omega) _ _) | exact HMK.out _ (hB8.alloc _))) (fun hHeld2 => ?_); clear hHeld hK K; have hHeld := hHeld2; clear hHeld2
            refine sc_take' rfl (by rfl) (by intro w hSw; (try dsimp only at hSw); go_simp; (try (first | with_reducible rfl | rfl))) ?_; (try simp only [Act.put, List.setIfInBounds_toArray, List.set_cons_zero, List.set_cons_succ])
            refine sc_nil (NoPanic.normal ?_)
            try clear q0 q1 f0 f1
            go_wp2_with fail
            go_meet
            case rel => first | exact ⟨_, rfl, by omega, HF.out.next (bl_set2 hB8 (by omega) _ _), .inr ⟨HT.out, rfl⟩⟩ | exact ⟨_, rfl, by omega, HF.out.next (bl_set2 hB8 (by omega) _ _), .inl ⟨_, HT.out, rfl, set2_heap hA _ _⟩⟩ | exact ⟨_, rfl, by omega, HF.out.next (hB8.alloc _), .inr ⟨HT.out, rfl⟩⟩ | exact ⟨_, rfl, by omega, HF.out.next (hB8.alloc _), .inl ⟨_, HT.out, rfl, heap_new _ _⟩⟩
      case rest =>
        obtain ⟨A, rfl, hA, HF2, hcase⟩ := hcut
        have hj1 : (j : Int) < (l.length : Int) := by omega
        rcases hcase with ⟨k', ht, rfl, hAh⟩ | ⟨ht, rfl⟩
        · have HE : Hid (takenEnd g cap ts k l = .returned (.tuple #[RS g ts.length cap k', .int .i64 y])) := by
            show _ = _
            unfold takenEnd
            rw [HD.out, HDj.out, ht]
          obtain ⟨a0, a1, -, -, -⟩ := cells2 hAh
          obtain ⟨r0, r1, z0, z1, hlr⟩ := cells2 HF2.r
          have HFF := Lib.hid HF2
          have hc2 : wc.cell? ⟨b, off + j, none⟩ = some (.int .i64 y) := by
            have := HY.out wc HF2.ints
            exact this
          have hbn : b ≠ W.heap.size + 1 := by have := HF2.far _ _ _ rfl; simp at this; omega
          clear ht hAh HF2 s0 s1 c
          go_wp2_with fail
          have HMK := Lib.hid (show ∀ B, Bl wc B → (B.cell? ⟨A, 0, none⟩ = some (.slice (some ⟨g, 0, none⟩) ts.length cap) ∧ B.cell? ⟨A, 1, none⟩ = some (.int .i64 (k' : Int)) ∧ B.cell? ⟨b, off + j, none⟩ = some (.int .i64 y) ∧ True) from fun B h => ⟨h.cell a0, h.cell a1, h.cell hc2, trivial⟩)
          have hd0 : Bl wc wc.drew := (Bl.refl wc).drew
          refine wp_region_noPanic (wp_region_sc (fun B => B.cell? ⟨A, 0, none⟩ = some (.slice (some ⟨g, 0, none⟩) ts.length cap) ∧ B.cell? ⟨A, 1, none⟩ = some (.int .i64 (k' : Int)) ∧ B.cell? ⟨b, off + j, none⟩ = some (.int .i64 y) ∧ True) ((.take 0 (.take 1 (.take 2 (.take 3 (.take 4 (.one 5 (.take 6 .done)))))))) (by kernel_rfl) (by kernel_rfl) (by kernel_rfl) (fun _ _ _ _ _ h => h) (HMK.out _ hd0) ?_)
          have hHeld := HMK.out _ hd0
          refine sc_take' rfl (by rfl) (by intro w hSw; (try dsimp only at hSw); go_simp; (try (first | with_reducible rfl | rfl))) ?_; (try simp only [Act.put, List.setIfInBounds_toArray, List.set_cons_zero, List.set_cons_succ])
          refine sc_take' rfl (by rfl) (by intro w hSw; (try dsimp only at hSw); go_simp; (try (first | with_reducible rfl | rfl))) ?_; (try simp only [Act.put, List.setIfInBounds_toArray, List.set_cons_zero, List.set_cons_succ])
          refine sc_take' rfl (by rfl) (by intro w hSw; (try dsimp only at hSw); go_simp; (try (first | with_reducible rfl | rfl))) ?_; (try simp only [Act.put, List.setIfInBounds_toArray, List.set_cons_zero, List.set_cons_succ])
          refine sc_take' rfl (by rfl) (by intro w hSw; (try dsimp only at hSw); go_simp; (try (first | with_reducible rfl | rfl))) ?_; (try simp only [Act.put, List.setIfInBounds_toArray, List.set_cons_zero, List.set_cons_succ])
          refine sc_take' rfl (by rfl) (by intro w hSw; (try dsimp only at hSw); go_simp; (try (first | with_reducible rfl | rfl))) ?_; (try simp only [Act.put, List.setIfInBounds_toArray, List.set_cons_zero, List.set_cons_succ])
          have hd00 := hd0
          refine sc_call' rfl (fun K hK => ?_); go_simp; refine hK.out _ _ ((by have hn1 : A ≠ W.heap.size + 1 := (by omega); have hn2 : b ≠ W.heap.size + 1 := hbn; exact ⟨set_apart (set_apart a0 hn1) hn1, set_apart (set_apart a1 hn1) hn1, set_apart (set_apart hc2 hn2) hn2, trivial⟩)) (fun hHeld2 => ?_); clear hHeld hK K; have hHeld := hHeld2; clear hHeld2
          refine sc_take' rfl (by rfl) (by intro w hSw; (try dsimp only at hSw); go_simp; (try (first | with_reducible rfl | rfl))) ?_; (try simp only [Act.put, List.setIfInBounds_toArray, List.set_cons_zero, List.set_cons_succ])
          refine sc_nil (NoPanic.normal ?_)
          go_wp2
          have hS5 := set2_heap HFF.out.r (.slice (some ⟨g, 0, none⟩) ts.length cap) (.int .i64 (k' : Int))
          obtain ⟨q0, q1, -, -, -⟩ := cells2 (W := (set2 wc (W.heap.size + 1) (.slice (some ⟨g, 0, none⟩) ts.length cap) (.int .i64 (k' : Int))).drew) hS5
          exact bodyPost_ret (v := .tuple #[RS g ts.length cap k', .int .i64 y]) (by simp [results, Tryz.results67, go_sem, q0, q1]) rfl ⟨HE.out.symm, (bl_set2 HFF.out.bl (by omega) _ _).drew⟩
        · have HDD : Hid (takenK ts k l = takenK ts k (l.drop (j + 1))) := by
            show _ = _
            rw [HD.out, HDj.out, ht]
          have HFF := Lib.hid HF2
          clear ht HF2 s0 s1 c
          go_wp2
          go_roundw
          case rel => exact ⟨j + 1, by omega, by go_num, HDD.out, HFF.out⟩
          case measure => simp [intOf]; omega
    · obtain rfl : j = l.length := by omega
      have HE : Hid (takenEnd g cap ts k l = .returned (.tuple #[RS g ts.length cap k, .int .i64 0])) := by
        show _ = _
        unfold takenEnd
        rw [HD.out, List.drop_length]
        rfl
      obtain ⟨s0, s1, -, -, -⟩ := cells2 HF.out.s
      obtain ⟨r0, r1, z0, z1, hlr⟩ := cells2 HF.out.r
      go_wp2
      have hS5 := set2_heap HF.out.r (.slice (some ⟨g, 0, none⟩) ts.length cap) (.int .i64 (k : Int))
      obtain ⟨q0, q1, -, -, -⟩ := cells2 hS5
      exact bodyPost_ret (v := .tuple #[RS g ts.length cap k, .int .i64 0]) (by simp [results, Tryz.results67, go_sem, q0, q1]) rfl ⟨HE.out.symm, bl_set2 HF.out.bl (by omega) _ _⟩

end Go.Proofs.YtepkfkfedmbmnaaGreatDoor

namespace Go.Proofs.YtepkfkfedmbmnaaGreatDoor
open Go.RowKit
set_option maxRecDepth 100000

theorem rTake_made {W W0 : World} {g cap k : Nat} {ts : List Tok} (h : Row W0 g ts) (hb0 : Bl W0 W) (hfew : ts.length ≤ 100000) (hk : k < ts.length) {b : Nat} {t : TypeId} (n : Nat) (xs : List (List UInt8)) (hn : n = xs.length) (hm : xs.length ≤ 1000000)
    (hb : W.heap[b]? = some (.cells (xs.map fun s => S s).toArray t (0, 0))) : Calls Tryz.prog 64 #[RS g ts.length cap k, .slice (some ⟨b, 0, none⟩) n n] W fun e w' => e = takeEnd g cap ts k xs ∧ Bl W w' :=
  rTake_any (h.bl hb0) hfew hk _ xs (strs_block n hn hb) hm
theorem takeEnd_some {g cap : Nat} {ts : List Tok} {k k' : Nat} {xs : List (List UInt8)} (h : takeK ts k xs = some k') : takeEnd g cap ts k xs = .returned (.tuple #[RS g ts.length cap k', .bool true]) := by unfold takeEnd; rw [h]
theorem takeEnd_none {g cap : Nat} {ts : List Tok} {k : Nat} {xs : List (List UInt8)} (h : takeK ts k xs = none) : takeEnd g cap ts k xs = .returned (.tuple #[RS g ts.length cap k, .bool false]) := by unfold takeEnd; rw [h]

--BEGIN1
set_option maxHeartbeats 4000000 in
theorem xread_deep {g cap : Nat} {ts : List Tok} (n : Int) {k : Nat} (hk : k < ts.length) (W : World) : Calls Tryz.prog 38 #[RS g ts.length cap k, .int .i64 n, .int .i64 61] W (RPost g cap ts W (.bad 260)) := by
  have HK := Lib.hid hk
  clear hk
  go_enter Tryz.func38, Tryz.ntmps38
  go_wp2
  refine bodyPost_ret (v := .tuple #[RS g ts.length cap k, EV 0 (0, 0, []) [] [] 0 (.slice none 0 0), .int .i64 260]) (by simp [results, Tryz.results38, go_sem]) rfl ⟨k, zeroE, _, 260, HK.out, readsX_zero _ _, rfl, ?_, .inr ⟨.inl rfl, rfl⟩⟩
  exact (((Bl.refl W).alloc _).alloc _).alloc _
--END1
/-- The reference reads what stands alone. -/
def AloneR (f : Nat) : Prop := ∀ (W : World) (g cap : Nat) (ts : List Tok) (k d : Nat), Row W g ts → TokOK ts → ts.length ≤ 100000 → k < ts.length → d ≤ 60 → aloneR ts (runR ts f) k d ≠ .out →
  Calls Tryz.prog 66 #[RS g ts.length cap k, .int .i64 (d : Int)] W (RPost g cap ts W (aloneR ts (runR ts f) k d))
--BEGIN2
set_option maxHeartbeats 4000000 in
theorem xread_2 {f : Nat} (IH : AllR f) {W : World} {g cap : Nat} {ts : List Tok} {k d : Nat} (h : Row W g ts) (hT : TokOK ts) (hfew : ts.length ≤ 100000) (hk : k < ts.length) (hd : d ≤ 60) (hne : stepR ts (runR ts f) (.rd 2 k d) ≠ .out) :
    Calls Tryz.prog 38 #[RS g ts.length cap k, .int .i64 2, .int .i64 (d : Int)] W (RPost g cap ts W (stepR ts (runR ts f) (.rd 2 k d))) := by
  have H := Lib.hid h
  have HI := Lib.hid IH
  have HK := Lib.hid hk
  have HT := Lib.hid hT
  clear h IH hk hT
  have hd1 : (d : Int) ≤ 60 := by omega
  have HF0 := Lib.hid (FrR.start W g ts.length cap k)
  rw [step_2] at hne ⊢
  cases ht : takeK ts k [sNot] with
  | none =>
    rw [ht] at hne
    simp only at hne ⊢
    have HN := Lib.hid hne
    have HE := Lib.hid (takeEnd_none (g := g) (cap := cap) ht)
    clear ht hne
    go_enter Tryz.func38, Tryz.ntmps38
    go_wp2_with fail
    refine (rTake_made H.out (HF0.out.bl.alloc _) hfew HK.out 1 [sNot] rfl (by simp) (heap_new' _ _ (by simp))).mono ?_
    rintro e w1 ⟨rfl, hb1⟩
    rw [HE.out]
    have HF1 := Lib.hid (HF0.out.next (((Bl.refl _).alloc _).call hb1))
    obtain ⟨s0, s1, -, -, hls⟩ := cells2 HF1.out.s
    clear hb1
    go_wp2_with fail
    refine (HI.out _ g cap ts 3 k d 3 d rfl rfl (H.out.bl (HF1.out.bl.alloc _)) HT.out hfew HK.out (by omega) (by omega) (by rw [rdR_same _ _ _ _ _ hd]; exact HN.out)).mono ?_
    rw [rdR_same _ _ _ _ _ hd]
    rintro e w2 ⟨k', x, v, c, hk', ⟨sv, rfl, hA⟩, rfl, hb2, hs⟩
    -- an answer is handed on: k', x, sv, c in world w2 (hA, hb2, hs, hk'; the frame HF1)
    have HF2 := Lib.hid (HF1.out.next (((Bl.refl _).alloc _).call hb2))
    have hz2 := HF1.out.size
    obtain ⟨xk, ⟨x1, x2, x3⟩, xt, xn, xo, xa⟩ := x
    obtain ⟨asv, csv, rfl⟩ := hA.shape
    simp only [Ex.k, Ex.v, Ex.t, Ex.n, Ex.o, Ex.args] at hA ⊢
    have HR := Lib.hid (And.intro hk' (And.intro (show ReadsX (W.heap.size + 3) w2 (.mk xk (x1, x2, x3) xt xn xo xa) (EV xk (x1, x2, x3) xt xn xo (.slice asv xa.length csv)) from ⟨_, rfl, ReadsA.low hA (by rw [World.size_alloc]; omega)⟩) hs))
    obtain ⟨r0, r1, z0, z1, hlr⟩ := cells2 HF2.out.r
    obtain ⟨⟨e0, e1, e2, e3, e4, e5, e6, e7⟩, f0, f1, f2, f3, f4, f5, f6, f7⟩ := eight HF2.out.x
    clear hb2 hA hs hk' s0 s1
    go_wp2
    obtain ⟨⟨q0, q1⟩, q2, q3, q4, q5, q6, q7, q8, q9⟩ := fin_cells (b := W.heap.size + 1) (c := W.heap.size + 1 + 1) (by omega) HF2.out.r HF2.out.x (.slice (some ⟨g, 0, none⟩) ts.length cap) (.int .i64 (k' : Int)) (.int .i64 xk) (.int .i64 x1) (.int .i64 x2) (S x3) (S xt) (S xn) (.int .i64 xo) (.slice asv xa.length csv)
    exact bodyPost_ret (v := .tuple #[RS g ts.length cap k', EV xk (x1, x2, x3) xt xn xo (.slice asv xa.length csv), .int .i64 c]) (by simp [results, Tryz.results38, go_sem, q0, q1, q2, q3, q4, q5, q6, q7, q8, q9]) rfl ⟨k', _, _, c, HR.out.1, fin_reads HR.out.2.1 (by omega) (by omega) (by omega) _ _ _ _ _ _ _ _ _ _, rfl, fin_bl HF2.out.bl (by omega) (by omega) _ _ _ _ _ _ _ _ _ _, HR.out.2.2⟩
  | some k1 => 
    rw [ht] at hne
    simp only at hne ⊢
    rw [← rdR_deeper] at hne ⊢
    have HN := Lib.hid (bind_out hne)
    have HE := Lib.hid (takeEnd_some (g := g) (cap := cap) ht)
    have hk1 := Lib.hid (take1_le HT.out HK.out ht).2
    clear ht hne
    go_enter Tryz.func38, Tryz.ntmps38
    go_wp2_with fail
    refine (rTake_made H.out (HF0.out.bl.alloc _) hfew HK.out 1 [sNot] rfl (by simp) (heap_new' _ _ (by simp))).mono ?_
    rintro e w1 ⟨rfl, hb1⟩
    rw [HE.out]
    have HF1 := Lib.hid (HF0.out.next (((Bl.refl _).alloc _).call hb1))
    obtain ⟨s0, s1, -, -, hls⟩ := cells2 HF1.out.s
    clear hb1
    go_wp2_with fail
    refine (HI.out _ g cap ts 2 k1 (d + 1) 2 (d + 1) rfl rfl (H.out.bl (HF1.out.bl.alloc _)) HT.out hfew hk1.out (by omega) (by omega) HN.out).mono ?_
    rintro e w2 ⟨k', x, v, c, hk', ⟨sv, rfl, hA⟩, rfl, hb2, hs⟩
    -- what was read (k', x, sv, c in world w2: hA, hb2, hs, hk'; the frame HF1) is laid in two blocks behind w2
    have hz1 := HF1.out.size
    have HF2 := Lib.hid (HF1.out.next (((Bl.refl _).alloc _).call hb2))
    obtain ⟨xk, ⟨x1, x2, x3⟩, xt, xn, xo, xa⟩ := x
    obtain ⟨asv, csv, rfl⟩ := hA.shape
    simp only [Ex.k, Ex.v, Ex.t, Ex.n, Ex.o, Ex.args] at hA ⊢
    have HA := Lib.hid (show ReadsA (W.heap.size + 3) w2 (.slice asv xa.length csv) xa from ReadsA.low hA (by rw [World.size_alloc]; omega))
    have HR := Lib.hid (And.intro hk' hs)
    have hz2 := HF2.out.size
    have HFA := Lib.hid (HF2.out.next (((Bl.refl w2).alloc (.cells #[.slice (some ⟨g, 0, none⟩) ts.length cap, .int .i64 (k' : Int)] 46)).alloc (.cells #[.int .i64 xk, .int .i64 x1, .int .i64 x2, S x3, S xt, S xn, .int .i64 xo, .slice asv xa.length csv] 30)))
    have HAX := Lib.hid (show ((w2.alloc (.cells #[.slice (some ⟨g, 0, none⟩) ts.length cap, .int .i64 (k' : Int)] 46)).alloc (.cells #[.int .i64 xk, .int .i64 x1, .int .i64 x2, S x3, S xt, S xn, .int .i64 xo, .slice asv xa.length csv] 30)).heap[w2.heap.size]? = some (.cells #[.slice (some ⟨g, 0, none⟩) ts.length cap, .int .i64 (k' : Int)] 46 (0, 0)) ∧ ((w2.alloc (.cells #[.slice (some ⟨g, 0, none⟩) ts.length cap, .int .i64 (k' : Int)] 46)).alloc (.cells #[.int .i64 xk, .int .i64 x1, .int .i64 x2, S x3, S xt, S xn, .int .i64 xo, .slice asv xa.length csv] 30)).heap[w2.heap.size + 1]? = some (.cells #[.int .i64 xk, .int .i64 x1, .int .i64 x2, S x3, S xt, S xn, .int .i64 xo, .slice asv xa.length csv] 30 (0, 0)) from ⟨(heap_old _ _ (by simp)).trans (heap_new w2 _), heap_new' _ _ (by simp)⟩)
    have HBA := Lib.hid (show Bl w2 ((w2.alloc (.cells #[.slice (some ⟨g, 0, none⟩) ts.length cap, .int .i64 (k' : Int)] 46)).alloc (.cells #[.int .i64 xk, .int .i64 x1, .int .i64 x2, S x3, S xt, S xn, .int .i64 xo, .slice asv xa.length csv] 30)) from ((Bl.refl w2).alloc _).alloc _)
    clear hb2 hA hs hk' s0 s1
    go_wp2_with fail
    -- the region that answers with the operator op over what was read (TAKENX, at its blocks)
    refine wp_region_noPanic (wp_region_sc (fun B => B.heap[w2.heap.size]? = some (.cells #[.slice (some ⟨g, 0, none⟩) ts.length cap, .int .i64 (k' : Int)] 46 (0, 0)) ∧ B.heap[w2.heap.size + 1]? = some (.cells #[.int .i64 xk, .int .i64 x1, .int .i64 x2, S x3, S xt, S xn, .int .i64 xo, .slice asv xa.length csv] 30 (0, 0))) ((.take 0 (.take 1 (.take 4 (.one 2 (.one 3 (.one 5 (.one 6 (.take 7 .done))))))))) (by kernel_rfl) (by kernel_rfl) (by kernel_rfl) (fun _ _ _ _ _ h => h) (keep_two HAX.out ((Bl.refl _).drew)) ?_)
    have hHeld := keep_two HAX.out ((Bl.refl _).drew)
    refine sc_take' rfl (by rfl) (by intro w hSw; (try dsimp only at hSw); obtain ⟨a0, a1, -, -, -⟩ := cells2 hSw.1; obtain ⟨⟨e0, e1, e2, e3, e4, e5, e6, e7⟩, -⟩ := eight hSw.2; go_simp; (try (first | with_reducible rfl | rfl))) ?_; (try simp only [Act.put, List.setIfInBounds_toArray, List.set_cons_zero, List.set_cons_succ])
    refine sc_take' rfl (by rfl) (by intro w hSw; (try dsimp only at hSw); obtain ⟨a0, a1, -, -, -⟩ := cells2 hSw.1; obtain ⟨⟨e0, e1, e2, e3, e4, e5, e6, e7⟩, -⟩ := eight hSw.2; go_simp; (try (first | with_reducible rfl | rfl))) ?_; (try simp only [Act.put, List.setIfInBounds_toArray, List.set_cons_zero, List.set_cons_succ])
    refine sc_take' rfl (by rfl) (by intro w hSw; (try dsimp only at hSw); obtain ⟨a0, a1, -, -, -⟩ := cells2 hSw.1; obtain ⟨⟨e0, e1, e2, e3, e4, e5, e6, e7⟩, -⟩ := eight hSw.2; go_simp; (try (first | with_reducible rfl | rfl))) ?_; (try simp only [Act.put, List.setIfInBounds_toArray, List.set_cons_zero, List.set_cons_succ])
    refine sc_call' rfl (fun K hK => ?_); go_simp; refine hK.out _ _ ((keep_two hHeld ((Bl.refl _).alloc _))) (fun hHeld2 => ?_); clear hHeld hK K; have hHeld := hHeld2; clear hHeld2
    refine sc_call' rfl (fun K hK => ?_); go_simp; ((with_reducible refine (xOf_any 16 _ ⟨_, _, _, rfl⟩ _).mono ?_); rintro e w5 ⟨rfl, hb⟩); go_wp2_with fail; refine hK.out _ _ (keep_two hHeld hb) (fun hHeld2 => ?_); clear hHeld hK K; have hHeld := hHeld2; clear hHeld2
    have HF5 := Lib.hid (HFA.out.next (((Bl.refl _).drew.alloc _).call hb))
    have HS5 := Lib.hid ((hb.block (w2.heap.size + 1 + 1) (by simp)).trans (heap_new' _ _ (k := w2.heap.size + 1 + 1) (by simp)))
    have HB5 := Lib.hid (HBA.out.call (((Bl.refl _).drew.alloc _).call hb))
    clear hb
    obtain ⟨r0, r1, z0, z1, hlr⟩ := cells2 HF5.out.r
    refine sc_call' rfl (fun K hK => ?_); go_simp; refine hK.out _ _ ((keep_set2 (b := W.heap.size + 1) hHeld (by omega) (by omega))) (fun hHeld2 => ?_); clear hHeld hK K; have hHeld := hHeld2; clear hHeld2
    clear r0 r1 z0 z1
    obtain ⟨⟨e0, e1, e2, e3, e4, e5, e6, e7⟩, f0, f1, f2, f3, f4, f5, f6, f7⟩ := eight ((set2_other w5 (b := W.heap.size + 1) (i := W.heap.size + 1 + 1) (by omega) (.slice (some ⟨g, 0, none⟩) ts.length cap) (.int .i64 (k' : Int))).trans HF5.out.x)
    refine sc_call' rfl (fun K hK => ?_); go_simp; refine hK.out _ _ ((keep_set8 (b := W.heap.size + 1 + 1) hHeld (by omega) (by omega))) (fun hHeld2 => ?_); clear hHeld hK K; have hHeld := hHeld2; clear hHeld2
    refine sc_take' rfl (by rfl) (by intro w hSw; (try dsimp only at hSw); obtain ⟨a0, a1, -, -, -⟩ := cells2 hSw.1; obtain ⟨⟨e0, e1, e2, e3, e4, e5, e6, e7⟩, -⟩ := eight hSw.2; go_simp; (try (first | with_reducible rfl | rfl))) ?_; (try simp only [Act.put, List.setIfInBounds_toArray, List.set_cons_zero, List.set_cons_succ])
    refine sc_nil (NoPanic.normal ?_)
    go_wp2
    -- the end behind ENDOF
    obtain ⟨⟨q0, q1⟩, q2, q3, q4, q5, q6, q7, q8, q9⟩ := fin_cells (b := W.heap.size + 1) (c := W.heap.size + 1 + 1) (by omega) HF5.out.r HF5.out.x (.slice (some ⟨g, 0, none⟩) ts.length cap) (.int .i64 (k' : Int)) (.int .i64 3) (.int .i64 0) (.int .i64 0) (S []) (S []) (S []) (.int .i64 16) (.slice (some ⟨w2.heap.size + 1 + 1, 0, none⟩) 1 1)
    have hX : ReadsX (W.heap.size + 3) w5 (opE 16 [.mk xk (x1, x2, x3) xt xn xo xa]) (EV 3 (0, 0, []) [] [] 16 (.slice (some ⟨w2.heap.size + 1 + 1, 0, none⟩) 1 1)) := readsX_op 16 (a_one 1 (by omega) HS5.out (HA.out.bl HB5.out))
    exact bodyPost_ret (v := .tuple #[RS g ts.length cap k', EV 3 (0, 0, []) [] [] 16 (.slice (some ⟨w2.heap.size + 1 + 1, 0, none⟩) 1 1), .int .i64 c]) (by simp [results, Tryz.results38, go_sem, q0, q1, q2, q3, q4, q5, q6, q7, q8, q9]) rfl ⟨k', _, _, c, HR.out.1, fin_reads hX (by omega) (by omega) (by omega) _ _ _ _ _ _ _ _ _ _, rfl, fin_bl HF5.out.bl (by omega) (by omega) _ _ _ _ _ _ _ _ _ _, HR.out.2.bind fun y => opE 16 [y]⟩
--END2
--BEGIN3
set_option maxHeartbeats 4000000 in
theorem xread_7 {f : Nat} (IH : AllR f) (IA : AloneR f) {W : World} {g cap : Nat} {ts : List Tok} {k d : Nat} (h : Row W g ts) (hT : TokOK ts) (hfew : ts.length ≤ 100000) (hk : k < ts.length) (hd : d ≤ 60) (hne : stepR ts (runR ts f) (.rd 7 k d) ≠ .out) :
    Calls Tryz.prog 38 #[RS g ts.length cap k, .int .i64 7, .int .i64 (d : Int)] W (RPost g cap ts W (stepR ts (runR ts f) (.rd 7 k d))) := by
  have H := Lib.hid h
  have HI := Lib.hid IH
  have HA0 := Lib.hid IA
  have HK := Lib.hid hk
  have HT := Lib.hid hT
  clear h IH IA hk hT
  have hd1 : (d : Int) ≤ 60 := by omega
  have HF0 := Lib.hid (FrR.start W g ts.length cap k)
  rw [step_7] at hne ⊢
  cases ht : takeK ts k [[45]] with
  | none =>
    rw [ht] at hne
    simp only at hne ⊢
    have HN := Lib.hid hne
    have HE := Lib.hid (takeEnd_none (g := g) (cap := cap) ht)
    clear ht hne
    go_enter Tryz.func38, Tryz.ntmps38
    go_wp2_with fail
    refine (rTake_made H.out (HF0.out.bl.alloc _) hfew HK.out 1 [[45]] rfl (by simp) (heap_new' _ _ (by simp))).mono ?_
    rintro e w1 ⟨rfl, hb1⟩
    rw [HE.out]
    have HF1 := Lib.hid (HF0.out.next (((Bl.refl _).alloc _).call hb1))
    obtain ⟨s0, s1, -, -, hls⟩ := cells2 HF1.out.s
    clear hb1
    go_wp2_with fail
    refine (HA0.out _ g cap ts k d (H.out.bl (HF1.out.bl.alloc _)) HT.out hfew HK.out hd HN.out).mono ?_
    rintro e w2 ⟨k', x, v, c, hk', ⟨sv, rfl, hA⟩, rfl, hb2, hs⟩
    -- an answer is handed on: k', x, sv, c in world w2 (hA, hb2, hs, hk'; the frame HF1)
    have HF2 := Lib.hid (HF1.out.next (((Bl.refl _).alloc _).call hb2))
    have hz2 := HF1.out.size
    obtain ⟨xk, ⟨x1, x2, x3⟩, xt, xn, xo, xa⟩ := x
    obtain ⟨asv, csv, rfl⟩ := hA.shape
    simp only [Ex.k, Ex.v, Ex.t, Ex.n, Ex.o, Ex.args] at hA ⊢
    have HR := Lib.hid (And.intro hk' (And.intro (show ReadsX (W.heap.size + 3) w2 (.mk xk (x1, x2, x3) xt xn xo xa) (EV xk (x1, x2, x3) xt xn xo (.slice asv xa.length csv)) from ⟨_, rfl, ReadsA.low hA (by rw [World.size_alloc]; omega)⟩) hs))
    obtain ⟨r0, r1, z0, z1, hlr⟩ := cells2 HF2.out.r
    obtain ⟨⟨e0, e1, e2, e3, e4, e5, e6, e7⟩, f0, f1, f2, f3, f4, f5, f6, f7⟩ := eight HF2.out.x
    clear hb2 hA hs hk' s0 s1
    go_wp2
    obtain ⟨⟨q0, q1⟩, q2, q3, q4, q5, q6, q7, q8, q9⟩ := fin_cells (b := W.heap.size + 1) (c := W.heap.size + 1 + 1) (by omega) HF2.out.r HF2.out.x (.slice (some ⟨g, 0, none⟩) ts.length cap) (.int .i64 (k' : Int)) (.int .i64 xk) (.int .i64 x1) (.int .i64 x2) (S x3) (S xt) (S xn) (.int .i64 xo) (.slice asv xa.length csv)
    exact bodyPost_ret (v := .tuple #[RS g ts.length cap k', EV xk (x1, x2, x3) xt xn xo (.slice asv xa.length csv), .int .i64 c]) (by simp [results, Tryz.results38, go_sem, q0, q1, q2, q3, q4, q5, q6, q7, q8, q9]) rfl ⟨k', _, _, c, HR.out.1, fin_reads HR.out.2.1 (by omega) (by omega) (by omega) _ _ _ _ _ _ _ _ _ _, rfl, fin_bl HF2.out.bl (by omega) (by omega) _ _ _ _ _ _ _ _ _ _, HR.out.2.2⟩
  | some k1 => 
    rw [ht] at hne
    simp only at hne ⊢
    rw [← rdR_deeper] at hne ⊢
    have HN := Lib.hid (bind_out hne)
    have HE := Lib.hid (takeEnd_some (g := g) (cap := cap) ht)
    have hk1 := Lib.hid (take1_le HT.out HK.out ht).2
    clear ht hne
    go_enter Tryz.func38, Tryz.ntmps38
    go_wp2_with fail
    refine (rTake_made H.out (HF0.out.bl.alloc _) hfew HK.out 1 [[45]] rfl (by simp) (heap_new' _ _ (by simp))).mono ?_
    rintro e w1 ⟨rfl, hb1⟩
    rw [HE.out]
    have HF1 := Lib.hid (HF0.out.next (((Bl.refl _).alloc _).call hb1))
    obtain ⟨s0, s1, -, -, hls⟩ := cells2 HF1.out.s
    clear hb1
    go_wp2_with fail
    refine (HI.out _ g cap ts 7 k1 (d + 1) 7 (d + 1) rfl rfl (H.out.bl (HF1.out.bl.alloc _)) HT.out hfew hk1.out (by omega) (by omega) HN.out).mono ?_
    rintro e w2 ⟨k', x, v, c, hk', ⟨sv, rfl, hA⟩, rfl, hb2, hs⟩
    -- what was read (k', x, sv, c in world w2: hA, hb2, hs, hk'; the frame HF1) is laid in two blocks behind w2
    have hz1 := HF1.out.size
    have HF2 := Lib.hid (HF1.out.next (((Bl.refl _).alloc _).call hb2))
    obtain ⟨xk, ⟨x1, x2, x3⟩, xt, xn, xo, xa⟩ := x
    obtain ⟨asv, csv, rfl⟩ := hA.shape
    simp only [Ex.k, Ex.v, Ex.t, Ex.n, Ex.o, Ex.args] at hA ⊢
    have HA := Lib.hid (show ReadsA (W.heap.size + 3) w2 (.slice asv xa.length csv) xa from ReadsA.low hA (by rw [World.size_alloc]; omega))
    have HR := Lib.hid (And.intro hk' hs)
    have hz2 := HF2.out.size
    have HFA := Lib.hid (HF2.out.next (((Bl.refl w2).alloc (.cells #[.slice (some ⟨g, 0, none⟩) ts.length cap, .int .i64 (k' : Int)] 46)).alloc (.cells #[.int .i64 xk, .int .i64 x1, .int .i64 x2, S x3, S xt, S xn, .int .i64 xo, .slice asv xa.length csv] 30)))
    have HAX := Lib.hid (show ((w2.alloc (.cells #[.slice (some ⟨g, 0, none⟩) ts.length cap, .int .i64 (k' : Int)] 46)).alloc (.cells #[.int .i64 xk, .int .i64 x1, .int .i64 x2, S x3, S xt, S xn, .int .i64 xo, .slice asv xa.length csv] 30)).heap[w2.heap.size]? = some (.cells #[.slice (some ⟨g, 0, none⟩) ts.length cap, .int .i64 (k' : Int)] 46 (0, 0)) ∧ ((w2.alloc (.cells #[.slice (some ⟨g, 0, none⟩) ts.length cap, .int .i64 (k' : Int)] 46)).alloc (.cells #[.int .i64 xk, .int .i64 x1, .int .i64 x2, S x3, S xt, S xn, .int .i64 xo, .slice asv xa.length csv] 30)).heap[w2.heap.size + 1]? = some (.cells #[.int .i64 xk, .int .i64 x1, .int .i64 x2, S x3, S xt, S xn, .int .i64 xo, .slice asv xa.length csv] 30 (0, 0)) from ⟨(heap_old _ _ (by simp)).trans (heap_new w2 _), heap_new' _ _ (by simp)⟩)
    have HBA := Lib.hid (show Bl w2 ((w2.alloc (.cells #[.slice (some ⟨g, 0, none⟩) ts.length cap, .int .i64 (k' : Int)] 46)).alloc (.cells #[.int .i64 xk, .int .i64 x1, .int .i64 x2, S x3, S xt, S xn, .int .i64 xo, .slice asv xa.length csv] 30)) from ((Bl.refl w2).alloc _).alloc _)
    clear hb2 hA hs hk' s0 s1
    go_wp2_with fail
    -- the region that answers with the operator op over what was read (TAKENX, at its blocks)
    refine wp_region_noPanic (wp_region_sc (fun B => B.heap[w2.heap.size]? = some (.cells #[.slice (some ⟨g, 0, none⟩) ts.length cap, .int .i64 (k' : Int)] 46 (0, 0)) ∧ B.heap[w2.heap.size + 1]? = some (.cells #[.int .i64 xk, .int .i64 x1, .int .i64 x2, S x3, S xt, S xn, .int .i64 xo, .slice asv xa.length csv] 30 (0, 0))) ((.take 0 (.take 1 (.take 4 (.one 2 (.one 3 (.one 5 (.one 6 (.take 7 .done))))))))) (by kernel_rfl) (by kernel_rfl) (by kernel_rfl) (fun _ _ _ _ _ h => h) (keep_two HAX.out ((Bl.refl _).drew)) ?_)
    have hHeld := keep_two HAX.out ((Bl.refl _).drew)
    refine sc_take' rfl (by rfl) (by intro w hSw; (try dsimp only at hSw); obtain ⟨a0, a1, -, -, -⟩ := cells2 hSw.1; obtain ⟨⟨e0, e1, e2, e3, e4, e5, e6, e7⟩, -⟩ := eight hSw.2; go_simp; (try (first | with_reducible rfl | rfl))) ?_; (try simp only [Act.put, List.setIfInBounds_toArray, List.set_cons_zero, List.set_cons_succ])
    refine sc_take' rfl (by rfl) (by intro w hSw; (try dsimp only at hSw); obtain ⟨a0, a1, -, -, -⟩ := cells2 hSw.1; obtain ⟨⟨e0, e1, e2, e3, e4, e5, e6, e7⟩, -⟩ := eight hSw.2; go_simp; (try (first | with_reducible rfl | rfl))) ?_; (try simp only [Act.put, List.setIfInBounds_toArray, List.set_cons_zero, List.set_cons_succ])
    refine sc_take' rfl (by rfl) (by intro w hSw; (try dsimp only at hSw); obtain ⟨a0, a1, -, -, -⟩ := cells2 hSw.1; obtain ⟨⟨e0, e1, e2, e3, e4, e5, e6, e7⟩, -⟩ := eight hSw.2; go_simp; (try (first | with_reducible rfl | rfl))) ?_; (try simp only [Act.put, List.setIfInBounds_toArray, List.set_cons_zero, List.set_cons_succ])
    refine sc_call' rfl (fun K hK => ?_); go_simp; refine hK.out _ _ ((keep_two hHeld ((Bl.refl _).alloc _))) (fun hHeld2 => ?_); clear hHeld hK K; have hHeld := hHeld2; clear hHeld2
    refine sc_call' rfl (fun K hK => ?_); go_simp; ((with_reducible refine (xOf_any 15 _ ⟨_, _, _, rfl⟩ _).mono ?_); rintro e w5 ⟨rfl, hb⟩); go_wp2_with fail; refine hK.out _ _ (keep_two hHeld hb) (fun hHeld2 => ?_); clear hHeld hK K; have hHeld := hHeld2; clear hHeld2
    have HF5 := Lib.hid (HFA.out.next (((Bl.refl _).drew.alloc _).call hb))
    have HS5 := Lib.hid ((hb.block (w2.heap.size + 1 + 1) (by simp)).trans (heap_new' _ _ (k := w2.heap.size + 1 + 1) (by simp)))
    have HB5 := Lib.hid (HBA.out.call (((Bl.refl _).drew.alloc _).call hb))
    clear hb
    obtain ⟨r0, r1, z0, z1, hlr⟩ := cells2 HF5.out.r
    refine sc_call' rfl (fun K hK => ?_); go_simp; refine hK.out _ _ ((keep_set2 (b := W.heap.size + 1) hHeld (by omega) (by omega))) (fun hHeld2 => ?_); clear hHeld hK K; have hHeld := hHeld2; clear hHeld2
    clear r0 r1 z0 z1
    obtain ⟨⟨e0, e1, e2, e3, e4, e5, e6, e7⟩, f0, f1, f2, f3, f4, f5, f6, f7⟩ := eight ((set2_other w5 (b := W.heap.size + 1) (i := W.heap.size + 1 + 1) (by omega) (.slice (some ⟨g, 0, none⟩) ts.length cap) (.int .i64 (k' : Int))).trans HF5.out.x)
    refine sc_call' rfl (fun K hK => ?_); go_simp; refine hK.out _ _ ((keep_set8 (b := W.heap.size + 1 + 1) hHeld (by omega) (by omega))) (fun hHeld2 => ?_); clear hHeld hK K; have hHeld := hHeld2; clear hHeld2
    refine sc_take' rfl (by rfl) (by intro w hSw; (try dsimp only at hSw); obtain ⟨a0, a1, -, -, -⟩ := cells2 hSw.1; obtain ⟨⟨e0, e1, e2, e3, e4, e5, e6, e7⟩, -⟩ := eight hSw.2; go_simp; (try (first | with_reducible rfl | rfl))) ?_; (try simp only [Act.put, List.setIfInBounds_toArray, List.set_cons_zero, List.set_cons_succ])
    refine sc_nil (NoPanic.normal ?_)
    go_wp2
    -- the end behind ENDOF
    obtain ⟨⟨q0, q1⟩, q2, q3, q4, q5, q6, q7, q8, q9⟩ := fin_cells (b := W.heap.size + 1) (c := W.heap.size + 1 + 1) (by omega) HF5.out.r HF5.out.x (.slice (some ⟨g, 0, none⟩) ts.length cap) (.int .i64 (k' : Int)) (.int .i64 3) (.int .i64 0) (.int .i64 0) (S []) (S []) (S []) (.int .i64 15) (.slice (some ⟨w2.heap.size + 1 + 1, 0, none⟩) 1 1)
    have hX : ReadsX (W.heap.size + 3) w5 (opE 15 [.mk xk (x1, x2, x3) xt xn xo xa]) (EV 3 (0, 0, []) [] [] 15 (.slice (some ⟨w2.heap.size + 1 + 1, 0, none⟩) 1 1)) := readsX_op 15 (a_one 1 (by omega) HS5.out (HA.out.bl HB5.out))
    exact bodyPost_ret (v := .tuple #[RS g ts.length cap k', EV 3 (0, 0, []) [] [] 15 (.slice (some ⟨w2.heap.size + 1 + 1, 0, none⟩) 1 1), .int .i64 c]) (by simp [results, Tryz.results38, go_sem, q0, q1, q2, q3, q4, q5, q6, q7, q8, q9]) rfl ⟨k', _, _, c, HR.out.1, fin_reads hX (by omega) (by omega) (by omega) _ _ _ _ _ _ _ _ _ _, rfl, fin_bl HF5.out.bl (by omega) (by omega) _ _ _ _ _ _ _ _ _ _, HR.out.2.bind fun y => opE 15 [y]⟩
--END3

end Go.Proofs.YtepkfkfedmbmnaaGreatDoor

namespace Go.Proofs.YtepkfkfedmbmnaaGreatDoor
open Go.RowKit
set_option maxRecDepth 100000

/-- Where a level's loop stands. -/
def LoopSt (ts : List Tok) (R : Res) (n d f kk : Nat) (x : Ex) (c : Int) : Prop := (c = 0 ∧ ∃ f', f' ≤ f ∧ R = runR ts f' (.lp n kk d x)) ∨ ((c = 260 ∨ c = 261) ∧ R = .bad c)
def natAt (w : World) (b : Nat) : Nat := match w.cell? ⟨b, 1, none⟩ with
  | some (.int _ i) => i.toNat
  | _ => 0
theorem natAt_of {w : World} {b : Nat} {v : Value} {k : Nat} {t : TypeId} (h : w.heap[b]? = some (.cells #[v, .int .i64 (k : Int)] t (0, 0))) : natAt w b = k := by
  unfold natAt
  rw [(cells2 h).2.1]
  simp
theorem level_pos {n : Nat} {o : Int} (h : o ∈ levelOps n) : 1 ≤ o := by
  unfold levelOps at h
  split at h <;> simp at h <;> omega
theorem taken_mem {ts : List Tok} {k : Nat} {o : Int} {k' : Nat} : ∀ {l : List Int}, takenK ts k l = some (o, k') → o ∈ l
  | [], h => by cases h
  | p :: r, h => by
    unfold takenK at h
    cases ht : takeK ts k [opName p] with
    | some k2 =>
      rw [ht] at h
      injection h with h
      injection h with h _
      simp [h]
    | none =>
      rw [ht] at h
      exact List.mem_cons_of_mem _ (taken_mem h)
theorem takenEnd_some {g cap : Nat} {ts : List Tok} {k : Nat} {o : Int} {k' : Nat} {l : List Int} (h : takenK ts k l = some (o, k')) : takenEnd g cap ts k l = .returned (.tuple #[RS g ts.length cap k', .int .i64 o]) := by unfold takenEnd; rw [h]
theorem takenEnd_none {g cap : Nat} {ts : List Tok} {k : Nat} {l : List Int} (h : takenK ts k l = none) : takenEnd g cap ts k l = .returned (.tuple #[RS g ts.length cap k, .int .i64 0]) := by unfold takenEnd; rw [h]

theorem FrR.set2' {W A : World} {g n cap k b : Nat} (h : FrR W A g n cap k) (hb : W.heap.size + 1 + 1 < b) (y0 y1 : Value) : FrR W (set2 A b y0 y1) g n cap k :=
  ⟨bl_set2 h.bl (by omega) _ _, (set2_other _ (by omega) _ _).trans h.s, (set2_other _ (by omega) _ _).trans h.r, (set2_other _ (by omega) _ _).trans h.x⟩
theorem FrR.set8' {W A : World} {g n cap k b : Nat} (h : FrR W A g n cap k) (hb : W.heap.size + 1 + 1 < b) (y0 y1 y2 y3 y4 y5 y6 y7 : Value) : FrR W (set8 A b y0 y1 y2 y3 y4 y5 y6 y7) g n cap k :=
  ⟨bl_set8 h.bl (by omega) _ _ _ _ _ _ _ _, (set8_other _ (by omega) _ _ _ _ _ _ _ _).trans h.s, (set8_other _ (by omega) _ _ _ _ _ _ _ _).trans h.r, (set8_other _ (by omega) _ _ _ _ _ _ _ _).trans h.x⟩
theorem ReadsP.set2' {p : Nat → Prop} {A : World} {b : Nat} {sv : Value} {l : List Ex} (h : ReadsP p A sv l) (hb : ∀ i, p i → i ≠ b) (y0 y1 : Value) : ReadsP p (set2 A b y0 y1) sv l := h.keep (fun _ h => h) fun i hi _ => set2_other _ (hb i hi) _ _
theorem ReadsP.set8' {p : Nat → Prop} {A : World} {b : Nat} {sv : Value} {l : List Ex} (h : ReadsP p A sv l) (hb : ∀ i, p i → i ≠ b) (y0 y1 y2 y3 y4 y5 y6 y7 : Value) : ReadsP p (set8 A b y0 y1 y2 y3 y4 y5 y6 y7) sv l := h.keep (fun _ h => h) fun i hi _ => set8_other _ (hb i hi) _ _ _ _ _ _ _ _
theorem parts_past {ts : List Tok} (hT : TokOK ts) {f n k d : Nat} (hk : k < ts.length) {k' : Nat} {x : Ex} (h : runR ts f (.rd n k d) = .good k' x) : k < k' := by
  have hm := run_parts hT f (.rd n k d) hk
  rw [h] at hm
  have h1 := parts_pos x
  have h2 := hm.2
  simp only [Job.at, Job.made] at h2
  omega
--BEGIN1
set_option maxHeartbeats 8000000 in
theorem xread_n {f : Nat} (IH : ∀ f', f' ≤ f → AllR f') {W : World} {g cap : Nat} {ts : List Tok} {n k d : Nat} (h : Row W g ts) (hT : TokOK ts) (hfew : ts.length ≤ 100000) (hk : k < ts.length) (hd : d ≤ 60) (hn : n ≤ 6) (h2 : n ≠ 2) (h3 : n ≠ 3) (hne : stepR ts (runR ts f) (.rd n k d) ≠ .out) :
    Calls Tryz.prog 38 #[RS g ts.length cap k, .int .i64 (n : Int), .int .i64 (d : Int)] W (RPost g cap ts W (stepR ts (runR ts f) (.rd n k d))) := by
  have H := Lib.hid h
  have HI := Lib.hid IH
  have HK := Lib.hid hk
  have HT := Lib.hid hT
  clear h IH hk hT
  have hd1 : (d : Int) ≤ 60 := by omega
  have hn1 : (n : Int) ≤ 6 := by omega
  have hn2 : ¬ (n : Int) = 2 := by omega
  have hn3 : ¬ (n : Int) = 3 := by omega
  have hn7 : ¬ (n : Int) = 7 := by omega
  have hm2 : ((n : Int) == 2) = false := by simpa using hn2
  have hm3 : ((n : Int) == 3) = false := by simpa using hn3
  have hm7 : ((n : Int) == 7) = false := by simpa using hn7
  have HF0 := Lib.hid (FrR.start W g ts.length cap k)
  rw [step_n _ _ _ _ h2 (by omega) h3] at hne ⊢
  obtain ⟨R, HR0⟩ : ∃ R, Hid (R = (runR ts f (.rd (n + 1) k d)).bind fun k1 x => runR ts f (.lp n k1 d x)) := ⟨_, rfl⟩
  rw [← HR0.out] at hne ⊢
  have HNE := Lib.hid hne
  have hne1 : runR ts f (.rd (n + 1) k d) ≠ .out := bind_out (by rw [← HR0.out]; exact hne)
  have HN1 := Lib.hid hne1
  clear hne hne1 h2 h3
  go_enter Tryz.func38, Tryz.ntmps38
  go_wp2_with fail
  refine (HI.out f (Nat.le_refl _) _ g cap ts (n + 1) k d (n + 1) d rfl rfl (H.out.bl HF0.out.bl) HT.out hfew HK.out (by omega) (by omega) (by rw [rdR_same _ _ _ _ _ hd]; exact HN1.out)).mono ?_
  rw [rdR_same _ _ _ _ _ hd]
  rintro e w2 ⟨k', x, v, c, hk', ⟨sv, rfl, hA⟩, rfl, hb2, hs⟩
  have HF2 := Lib.hid (HF0.out.next hb2)
  obtain ⟨xk, ⟨x1, x2, x3⟩, xt, xn, xo, xa⟩ := x
  obtain ⟨asv, csv, rfl⟩ := hA.shape
  simp only [Ex.k, Ex.v, Ex.t, Ex.n, Ex.o, Ex.args] at hA ⊢
  have HA := Lib.hid (show ReadsP (fun b => W.heap.size + 3 ≤ b ∧ b ≠ w2.heap.size ∧ b ≠ w2.heap.size + 1) w2 (.slice asv xa.length csv) xa from hA.of fun b hl (hb : _ ≤ b) => ⟨by simp at hb; omega, by omega, by omega⟩)
  have HS := Lib.hid (show LoopSt ts R n d f k' (.mk xk (x1, x2, x3) xt xn xo xa) c from by
    rcases hs with ⟨rfl, e⟩ | ⟨hc, e⟩
    · exact .inl ⟨rfl, f, Nat.le_refl _, by rw [HR0.out, e]; rfl⟩
    · exact .inr ⟨hc, by rw [HR0.out, e]; rfl⟩)
  have hz2 := HF2.out.size
  clear hb2 hA hs
  have HAX2 := Lib.hid (show ((w2.alloc (.cells #[.slice (some ⟨g, 0, none⟩) ts.length cap, .int .i64 (k' : Int)] 46)).alloc (.cells #[.int .i64 xk, .int .i64 x1, .int .i64 x2, S x3, S xt, S xn, .int .i64 xo, .slice asv xa.length csv] 30)).heap[w2.heap.size]? = some (.cells #[.slice (some ⟨g, 0, none⟩) ts.length cap, .int .i64 (k' : Int)] 46 (0, 0)) ∧ ((w2.alloc (.cells #[.slice (some ⟨g, 0, none⟩) ts.length cap, .int .i64 (k' : Int)] 46)).alloc (.cells #[.int .i64 xk, .int .i64 x1, .int .i64 x2, S x3, S xt, S xn, .int .i64 xo, .slice asv xa.length csv] 30)).heap[w2.heap.size + 1]? = some (.cells #[.int .i64 xk, .int .i64 x1, .int .i64 x2, S x3, S xt, S xn, .int .i64 xo, .slice asv xa.length csv] 30 (0, 0)) from ⟨(heap_old _ _ (by simp)).trans (heap_new w2 _), heap_new' _ _ (by simp)⟩)
  go_wp2_with fail
  go_loopw [21] (fun no wr => ∃ (kk : Nat) (yk y1 y2 : Int) (y3 yt yn : List UInt8) (yo : Int) (ya : List Ex) (ysv : Option Addr) (ycv : Nat) (c : Int), no = .int .i64 c ∧ kk < ts.length ∧ Hid (FrR W wr g ts.length cap k) ∧
      Hid (wr.heap[w2.heap.size]? = some (.cells #[.slice (some ⟨g, 0, none⟩) ts.length cap, .int .i64 (kk : Int)] 46 (0, 0)) ∧ wr.heap[w2.heap.size + 1]? = some (.cells #[.int .i64 yk, .int .i64 y1, .int .i64 y2, S y3, S yt, S yn, .int .i64 yo, .slice ysv ya.length ycv] 30 (0, 0))) ∧
      Hid (ReadsP (fun b => W.heap.size + 3 ≤ b ∧ b ≠ w2.heap.size ∧ b ≠ w2.heap.size + 1) wr (.slice ysv ya.length ycv) ya) ∧ Hid (LoopSt ts R n d f kk (.mk yk (y1, y2, y3) yt yn yo ya) c)) (fun no wr => if intOf no = 0 then ts.length + 1 - natAt wr w2.heap.size else 0)
  case atStart => exact ⟨k', xk, x1, x2, x3, xt, xn, xo, xa, asv, csv, c, rfl, hk', HF2.out.next (((Bl.refl _).alloc _).alloc _), HAX2.out, HA.out.bl (((Bl.refl _).alloc _).alloc _), HS.out⟩
  case round =>
    clear HS HA HAX2 hk' HN1
    obtain ⟨kk, yk, y1, y2, y3, yt, yn, yo, ya, ysv, ycv, c, rfl, hkk, HFq, HAXq, HAq, HS⟩ := hrel
    have HKK := Lib.hid hkk
    have hzq := HFq.out.size
    by_cases hc0 : c = 0
    · subst hc0
      obtain ⟨f', hf', hRf⟩ : ∃ f', f' ≤ f ∧ R = runR ts f' (.lp n kk d (.mk yk (y1, y2, y3) yt yn yo ya)) := by
        rcases HS.out with ⟨-, h⟩ | ⟨h, _⟩
        · exact h
        · exact absurd h (by decide)
      obtain ⟨f2, rfl⟩ : ∃ f2, f' = f2 + 1 := by
        cases f' with
        | zero => exact absurd hRf HNE.out
        | succ m => exact ⟨m, rfl⟩
      replace hRf : R = stepR ts (runR ts f2) (.lp n kk d (.mk yk (y1, y2, y3) yt yn yo ya)) := hRf
      rw [step_lp] at hRf
      clear HS
      obtain ⟨a0, a1, -, -, -⟩ := cells2 HAXq.out.1
      cases ht : takenK ts kk (levelOps n) with
      | none =>
        rw [ht] at hRf
        have hSay := Lib.hid (show Says R kk (.mk yk (y1, y2, y3) yt yn yo ya) 0 from .inl ⟨rfl, hRf⟩)
        have HE := Lib.hid (takenEnd_none (g := g) (cap := cap) ht)
        clear hRf ht hkk
        go_wp2_with fail
        (with_reducible refine (xtaken_any (H.out.bl HFq.out.bl) hfew HKK.out hn).mono ?_)
        rintro e w3 ⟨rfl, hb3⟩
        rw [HE.out]
        have hbq := hb3.alloc (.cells #[.slice (some ⟨g, 0, none⟩) ts.length cap, .int .i64 (kk : Int)] 46)
        have HAXq := Lib.hid (keep_two HAXq.out hbq)
        have HAq := Lib.hid (HAq.out.bl hbq)
        have HFq := Lib.hid (HFq.out.next hbq)
        clear a0 a1 hb3 hbq
        go_wp2_with fail
        -- the last region: what stands in the blocks bt, bt + 1 is answered. HAXq: these blocks; HFq: the frame; HAq: the tree
        refine wp_region_noPanic (wp_region_sd (fun B => B.heap[w2.heap.size]? = some (.cells #[.slice (some ⟨g, 0, none⟩) ts.length cap, .int .i64 (kk : Int)] 46 (0, 0)) ∧ B.heap[w2.heap.size + 1]? = some (.cells #[.int .i64 yk, .int .i64 y1, .int .i64 y2, S y3, S yt, S yn, .int .i64 yo, .slice ysv ya.length ycv] 30 (0, 0))) ((.take 0 (.take 1 (.take 2 (.one 3 (.one 4 (.take 5 .done))))))) (by kernel_rfl) (by kernel_rfl) (by kernel_rfl) (fun _ _ _ _ _ h => h) (keep_two HAXq.out ((Bl.refl _).drew)) ?_) -- wp_region_sc 
        intro wd HWD hHeld
        refine sc_take' rfl (by rfl) (by intro w hSw; (try dsimp only at hSw); obtain ⟨a0, a1, -, -, -⟩ := cells2 hSw.1; obtain ⟨⟨e0, e1, e2, e3, e4, e5, e6, e7⟩, -⟩ := eight hSw.2; go_simp; (try (first | with_reducible rfl | rfl))) ?_; (try simp only [Act.put, List.setIfInBounds_toArray, List.set_cons_zero, List.set_cons_succ])
        refine sc_take' rfl (by rfl) (by intro w hSw; (try dsimp only at hSw); obtain ⟨a0, a1, -, -, -⟩ := cells2 hSw.1; obtain ⟨⟨e0, e1, e2, e3, e4, e5, e6, e7⟩, -⟩ := eight hSw.2; go_simp; (try (first | with_reducible rfl | rfl))) ?_; (try simp only [Act.put, List.setIfInBounds_toArray, List.set_cons_zero, List.set_cons_succ])
        refine sc_take' rfl (by rfl) (by intro w hSw; (try dsimp only at hSw); obtain ⟨a0, a1, -, -, -⟩ := cells2 hSw.1; obtain ⟨⟨e0, e1, e2, e3, e4, e5, e6, e7⟩, -⟩ := eight hSw.2; go_simp; (try (first | with_reducible rfl | rfl))) ?_; (try simp only [Act.put, List.setIfInBounds_toArray, List.set_cons_zero, List.set_cons_succ])
        obtain ⟨r0, r1, z0, z1, hlr⟩ := cells2 (HFq.out.next HWD.out).r
        refine sc_call' rfl (fun K hK => ?_); go_simp; refine hK.out _ _ ((keep_set2 (b := W.heap.size + 1) hHeld (by omega) (by omega))) (fun hHeld2 => ?_); clear hHeld hK K; have hHeld := hHeld2; clear hHeld2
        clear r0 r1 z0 z1
        obtain ⟨⟨e0, e1, e2, e3, e4, e5, e6, e7⟩, f0, f1, f2, f3, f4, f5, f6, f7⟩ := eight ((set2_other _ (b := W.heap.size + 1) (i := W.heap.size + 1 + 1) (by omega) (.slice (some ⟨g, 0, none⟩) ts.length cap) (.int .i64 (kk : Int))).trans (HFq.out.next HWD.out).x)
        refine sc_call' rfl (fun K hK => ?_); go_simp; refine hK.out _ _ ((keep_set8 (b := W.heap.size + 1 + 1) hHeld (by omega) (by omega))) (fun hHeld2 => ?_); clear hHeld hK K; have hHeld := hHeld2; clear hHeld2
        refine sc_take' rfl (by rfl) (by intro w hSw; (try dsimp only at hSw); obtain ⟨a0, a1, -, -, -⟩ := cells2 hSw.1; obtain ⟨⟨e0, e1, e2, e3, e4, e5, e6, e7⟩, -⟩ := eight hSw.2; go_simp; (try (first | with_reducible rfl | rfl))) ?_; (try simp only [Act.put, List.setIfInBounds_toArray, List.set_cons_zero, List.set_cons_succ])
        refine sc_nil (NoPanic.normal ?_)
        go_wp2
        obtain ⟨⟨q0, q1⟩, q2, q3, q4, q5, q6, q7, q8, q9⟩ := fin_cells (b := W.heap.size + 1) (c := W.heap.size + 1 + 1) (by omega) (HFq.out.next HWD.out).r (HFq.out.next HWD.out).x (.slice (some ⟨g, 0, none⟩) ts.length cap) (.int .i64 (kk : Int)) (.int .i64 yk) (.int .i64 y1) (.int .i64 y2) (S y3) (S yt) (S yn) (.int .i64 yo) (.slice ysv ya.length ycv)
        have hX : ReadsXP _ _ (.mk yk (y1, y2, y3) yt yn yo ya) (EV yk (y1, y2, y3) yt yn yo (.slice ysv ya.length ycv)) := ⟨_, rfl, HAq.out.bl HWD.out⟩
        exact bodyPost_ret (v := .tuple #[RS g ts.length cap kk, EV yk (y1, y2, y3) yt yn yo (.slice ysv ya.length ycv), .int .i64 0]) (by simp [results, Tryz.results38, go_sem, q0, q1, q2, q3, q4, q5, q6, q7, q8, q9]) rfl ⟨kk, _, _, 0, HKK.out, fin_readsP hX (fun i hi => ⟨by have := hi.1; omega, by have := hi.1; omega, by have := hi.1; omega⟩) _ _ _ _ _ _ _ _ _ _, rfl, fin_bl (HFq.out.next HWD.out).bl (by omega) (by omega) _ _ _ _ _ _ _ _ _ _, hSay.out⟩
      | some q =>
        obtain ⟨o, k2⟩ := q
        rw [ht] at hRf
        have hk2 := takenK_le HT.out hkk ht
        have HE := Lib.hid (takenEnd_some (g := g) (cap := cap) ht)
        have hop := level_pos (taken_mem ht)
        have ho0 : (o == 0) = false := by simp; omega
        have HRF := Lib.hid hRf
        have hrne := Lib.hid (bind_out (g := fun k3 y => runR ts f2 (.lp n k3 d (opE o [.mk yk (y1, y2, y3) yt yn yo ya, y]))) (show _ from by have := HNE.out; rw [hRf] at this; exact this))
        clear hRf ht hkk hop
        go_wp2_with fail
        (with_reducible refine (xtaken_any (H.out.bl HFq.out.bl) hfew HKK.out hn).mono ?_)
        rintro e w3 ⟨rfl, hb3⟩
        rw [HE.out]
        have hz3 := hb3.size
        have hzA := (Array.getElem?_eq_some_iff.1 HAXq.out.2).1
        go_upto_region 20 with fail
        go_cut [21] from 109 to 117 (fun no wc => ∃ (k3 : Nat) (zk z1 z2 : Int) (z3 zt zn : List UInt8) (zo : Int) (za : List Ex) (zsv : Option Addr) (zcv : Nat) (c2 : Int), no = .int .i64 c2 ∧ k3 < ts.length ∧ FrR W wc g ts.length cap k ∧
            wc.heap[w2.heap.size]? = some (.cells #[.slice (some ⟨g, 0, none⟩) ts.length cap, .int .i64 (k3 : Int)] 46 (0, 0)) ∧ wc.heap[w2.heap.size + 1]? = some (.cells #[.int .i64 yk, .int .i64 y1, .int .i64 y2, S y3, S yt, S yn, .int .i64 yo, .slice ysv ya.length ycv] 30 (0, 0)) ∧
            wc.heap[w3.heap.size + 1]? = some (.cells #[.int .i64 zk, .int .i64 z1, .int .i64 z2, S z3, S zt, S zn, .int .i64 zo, .slice zsv za.length zcv] 30 (0, 0)) ∧ ReadsP (fun b => W.heap.size + 3 ≤ b ∧ b ≠ w2.heap.size ∧ b ≠ w2.heap.size + 1) wc (.slice ysv ya.length ycv) ya ∧
            ReadsP (fun b => W.heap.size + 3 ≤ b ∧ b ≠ w2.heap.size ∧ b ≠ w2.heap.size + 1) wc (.slice zsv za.length zcv) za ∧ Says (runR ts f2 (.rd (n + 1) k2 d)) k3 (.mk zk (z1, z2, z3) zt zn zo za) c2 ∧ w3.heap.size + 1 < wc.heap.size)
        case first =>
          clear a0 a1
          have hb4 := Lib.hid ((hb3.alloc (.cells #[.slice (some ⟨g, 0, none⟩) ts.length cap, .int .i64 (k2 : Int)] 46)).alloc (.cells #[.int .i64 0, .int .i64 0, .int .i64 0, .string ⟨#[]⟩, .string ⟨#[]⟩, .string ⟨#[]⟩, .int .i64 0, .slice none 0 0] 30))
          go_wp2_with fail
          refine (HI.out f2 (by omega) _ g cap ts (n + 1) k2 d (n + 1) d rfl rfl (H.out.bl (HFq.out.bl.call hb4.out)) HT.out hfew hk2.2 (by omega) (by omega) (by rw [rdR_same _ _ _ _ _ hd]; exact hrne.out)).mono ?_
          rw [rdR_same _ _ _ _ _ hd]
          rintro e w5 ⟨k3, z, v, c2, hk3, ⟨zs, rfl, hZ⟩, rfl, hb5, hs5⟩
          obtain ⟨zk, ⟨z1, z2, z3⟩, zt, zn, zo, za⟩ := z
          obtain ⟨zsv, zcv, rfl⟩ := hZ.shape
          simp only [Ex.k, Ex.v, Ex.t, Ex.n, Ex.o, Ex.args] at hZ ⊢
          have HAX5 := Lib.hid (keep_two HAXq.out (hb4.out.call hb5))
          have H24 := Lib.hid ((hb5.block (w3.heap.size + 1) (by simp)).trans (heap_new' _ _ (k := w3.heap.size + 1) (by simp)))
          have HF5 := Lib.hid (HFq.out.next (hb4.out.call hb5))
          have HA5 := Lib.hid (show ReadsP (fun b => W.heap.size + 3 ≤ b ∧ b ≠ w2.heap.size ∧ b ≠ w2.heap.size + 1 ∧ b ≠ w3.heap.size + 1) w5 (.slice ysv ya.length ycv) ya from (HAq.out.of fun b hl hb => ⟨hb.1, hb.2.1, hb.2.2, by omega⟩).bl (hb4.out.call hb5))
          have HZ := Lib.hid (show ReadsP (fun b => W.heap.size + 3 ≤ b ∧ b ≠ w2.heap.size ∧ b ≠ w2.heap.size + 1 ∧ b ≠ w3.heap.size + 1) w5 (.slice zsv za.length zcv) za from hZ.of fun b hl (hb : _ ≤ b) => by simp at hb; omega)
          have HS5 := Lib.hid (And.intro hk3 hs5)
          have hz5 := (Array.getElem?_eq_some_iff.1 H24.out).1
          obtain ⟨b0, b1, d0, d1, -⟩ := cells2 HAX5.out.1
          obtain ⟨⟨e0, e1, e2, e3, e4, e5, e6, e7⟩, f0, f1, f3, f4, f5, f6, f7, f8⟩ := eight ((set2_other _ (b := w2.heap.size) (i := w3.heap.size + 1) (by omega) (.slice (some ⟨g, 0, none⟩) ts.length cap) (.int .i64 (k3 : Int))).trans H24.out)
          clear hb5 hZ hk3 hs5
          go_wp2
          go_meet
          case rel =>
            refine ⟨k3, zk, z1, z2, z3, zt, zn, zo, za, zsv, zcv, c2, rfl, HS5.out.1, (HF5.out.set2' (by omega) _ _).set8' (by omega) _ _ _ _ _ _ _ _, ?_, ?_, ?_, ?_, ?_, HS5.out.2, ?_⟩
            · exact (set8_other _ (b := w3.heap.size + 1) (by omega) _ _ _ _ _ _ _ _).trans (set2_heap HAX5.out.1 _ _)
            · exact (set8_other _ (b := w3.heap.size + 1) (by omega) _ _ _ _ _ _ _ _).trans ((set2_other _ (b := w2.heap.size) (by omega) _ _).trans HAX5.out.2)
            · exact set8_heap ((set2_other _ (b := w2.heap.size) (by omega) _ _).trans H24.out) _ _ _ _ _ _ _ _
            · exact ((HA5.out.set2' (fun i hi => hi.2.1) _ _).set8' (fun i hi => hi.2.2.2) _ _ _ _ _ _ _ _).of fun b _ hb => ⟨hb.1, hb.2.1, hb.2.2.1⟩
            · exact ((HZ.out.set2' (fun i hi => hi.2.1) _ _).set8' (fun i hi => hi.2.2.2) _ _ _ _ _ _ _ _).of fun b _ hb => ⟨hb.1, hb.2.1, hb.2.2.1⟩
            · simp only [World.size_setCell]
              exact hz5
        case rest =>
          obtain ⟨k3, zk, z1, z2, z3, zt, zn, zo, za, zsv, zcv, c2, rfl, hk3, hF, hB0, hB1, h24, hY, hZ, hSy, hzc⟩ := hcut
          obtain ⟨⟨e0, e1, e2, e3, e4, e5, e6, e7⟩, -⟩ := eight hB1
          obtain ⟨⟨i0, i1, i2, i3, i4, i5, i6, i7⟩, -⟩ := eight h24
          have HFc := Lib.hid hF
          have HB := Lib.hid (And.intro hB0 hB1)
          have HYZ := Lib.hid (And.intro hY hZ)
          have HSy := Lib.hid (And.intro hk3 hSy)
          clear hF hB0 hB1 h24 hY hZ hSy hk3 a0 a1
          go_wp2_with fail
          (with_reducible refine (xOf_any o _ ⟨_, _, _, rfl⟩ _).mono ?_)
          rintro e w6 ⟨rfl, hb6⟩
          have HFd := Lib.hid (HFc.out.next (((Bl.refl _).alloc _).call hb6))
          have HBd := Lib.hid (keep_two HB.out (((Bl.refl _).alloc _).call hb6))
          have HSL := Lib.hid ((hb6.block wc.heap.size (by simp)).trans (heap_new' _ _ (k := wc.heap.size) rfl))
          have HYd := Lib.hid (And.intro (HYZ.out.1.bl (((Bl.refl _).alloc _).call hb6)) (HYZ.out.2.bl (((Bl.refl _).alloc _).call hb6)))
          clear hb6 e0 e1 e2 e3 e4 e5 e6 e7 i0 i1 i2 i3 i4 i5 i6 i7
          obtain ⟨⟨e0, e1, e2, e3, e4, e5, e6, e7⟩, f0, f1, f3, f4, f5, f6, f7, f8⟩ := eight HBd.out.2
          go_wp2
          go_roundw
          case rel =>
            refine ⟨k3, 3, 0, 0, [], [], [], o, [.mk yk (y1, y2, y3) yt yn yo ya, .mk zk (z1, z2, z3) zt zn zo za], some ⟨wc.heap.size, 0, none⟩, 2, c2, rfl, HSy.out.1, HFd.out.set8' (by omega) _ _ _ _ _ _ _ _, ⟨?_, ?_⟩, ?_, ?_⟩
            · exact (set8_other _ (b := w2.heap.size + 1) (by omega) _ _ _ _ _ _ _ _).trans HBd.out.1
            · exact set8_heap HBd.out.2 _ _ _ _ _ _ _ _
            · exact (p_two (p := fun b => W.heap.size + 3 ≤ b ∧ b ≠ w2.heap.size ∧ b ≠ w2.heap.size + 1) 2 ⟨by omega, by omega, by omega⟩ HSL.out HYd.out.1 HYd.out.2).set8' (fun i hi => hi.2.2) _ _ _ _ _ _ _ _
            · rcases HSy.out.2 with ⟨rfl, e⟩ | ⟨hc, e⟩
              · exact .inl ⟨rfl, f2, by omega, by rw [HRF.out]; (try simp only); rw [e]; rfl⟩
              · exact .inr ⟨hc, by rw [HRF.out]; (try simp only); rw [e]; rfl⟩
          case measure =>
            have n1 := natAt_of HAXq.out.1
            have n2 := natAt_of ((set8_other w6 (b := w2.heap.size + 1) (i := w2.heap.size) (by omega) (.int .i64 3) (.int .i64 0) (.int .i64 0) (S []) (S []) (S []) (.int .i64 o) (.slice (some ⟨wc.heap.size, 0, none⟩) 2 2)).trans HBd.out.1)
            have hlt := HKK.out
            show (if c2 = 0 then _ else _) < (if (0 : Int) = 0 then _ else _)
            rw [if_pos rfl, n1]
            by_cases hc2 : c2 = 0
            · subst hc2
              have hp := parts_past HT.out hk2.2 HSy.out.2.yes
              rw [if_pos rfl]
              show ts.length + 1 - natAt (set8 w6 (w2.heap.size + 1) (.int .i64 3) (.int .i64 0) (.int .i64 0) (S []) (S []) (S []) (.int .i64 o) (.slice (some ⟨wc.heap.size, 0, none⟩) 2 2)) w2.heap.size < _
              rw [n2]
              have := hk2.1
              omega
            · rw [if_neg hc2]
              omega
    · have hcb : (c == 0) = false := by simpa using hc0
      have hSay := Lib.hid (show Says R kk (.mk yk (y1, y2, y3) yt yn yo ya) c from by
        rcases HS.out with ⟨e, _⟩ | h
        · exact absurd e hc0
        · exact .inr h)
      clear HS hkk
      go_wp2_with fail
      -- the last region: what stands in the blocks bt, bt + 1 is answered. HAXq: these blocks; HFq: the frame; HAq: the tree
      refine wp_region_noPanic (wp_region_sd (fun B => B.heap[w2.heap.size]? = some (.cells #[.slice (some ⟨g, 0, none⟩) ts.length cap, .int .i64 (kk : Int)] 46 (0, 0)) ∧ B.heap[w2.heap.size + 1]? = some (.cells #[.int .i64 yk, .int .i64 y1, .int .i64 y2, S y3, S yt, S yn, .int .i64 yo, .slice ysv ya.length ycv] 30 (0, 0))) ((.take 0 (.take 1 (.take 2 (.one 3 (.one 4 (.take 5 .done))))))) (by kernel_rfl) (by kernel_rfl) (by kernel_rfl) (fun _ _ _ _ _ h => h) (keep_two HAXq.out ((Bl.refl _).drew)) ?_) -- wp_region_sc 
      intro wd HWD hHeld
      refine sc_take' rfl (by rfl) (by intro w hSw; (try dsimp only at hSw); obtain ⟨a0, a1, -, -, -⟩ := cells2 hSw.1; obtain ⟨⟨e0, e1, e2, e3, e4, e5, e6, e7⟩, -⟩ := eight hSw.2; go_simp; (try (first | with_reducible rfl | rfl))) ?_; (try simp only [Act.put, List.setIfInBounds_toArray, List.set_cons_zero, List.set_cons_succ])
      refine sc_take' rfl (by rfl) (by intro w hSw; (try dsimp only at hSw); obtain ⟨a0, a1, -, -, -⟩ := cells2 hSw.1; obtain ⟨⟨e0, e1, e2, e3, e4, e5, e6, e7⟩, -⟩ := eight hSw.2; go_simp; (try (first | with_reducible rfl | rfl))) ?_; (try simp only [Act.put, List.setIfInBounds_toArray, List.set_cons_zero, List.set_cons_succ])
      refine sc_take' rfl (by rfl) (by intro w hSw; (try dsimp only at hSw); obtain ⟨a0, a1, -, -, -⟩ := cells2 hSw.1; obtain ⟨⟨e0, e1, e2, e3, e4, e5, e6, e7⟩, -⟩ := eight hSw.2; go_simp; (try (first | with_reducible rfl | rfl))) ?_; (try simp only [Act.put, List.setIfInBounds_toArray, List.set_cons_zero, List.set_cons_succ])
      obtain ⟨r0, r1, z0, z1, hlr⟩ := cells2 (HFq.out.next HWD.out).r
      refine sc_call' rfl (fun K hK => ?_); go_simp; refine hK.out _ _ ((keep_set2 (b := W.heap.size + 1) hHeld (by omega) (by omega))) (fun hHeld2 => ?_); clear hHeld hK K; have hHeld := hHeld2; clear hHeld2
      clear r0 r1 z0 z1
      obtain ⟨⟨e0, e1, e2, e3, e4, e5, e6, e7⟩, f0, f1, f2, f3, f4, f5, f6, f7⟩ := eight ((set2_other _ (b := W.heap.size + 1) (i := W.heap.size + 1 + 1) (by omega) (.slice (some ⟨g, 0, none⟩) ts.length cap) (.int .i64 (kk : Int))).trans (HFq.out.next HWD.out).x)
      refine sc_call' rfl (fun K hK => ?_); go_simp; refine hK.out _ _ ((keep_set8 (b := W.heap.size + 1 + 1) hHeld (by omega) (by omega))) (fun hHeld2 => ?_); clear hHeld hK K; have hHeld := hHeld2; clear hHeld2
      refine sc_take' rfl (by rfl) (by intro w hSw; (try dsimp only at hSw); obtain ⟨a0, a1, -, -, -⟩ := cells2 hSw.1; obtain ⟨⟨e0, e1, e2, e3, e4, e5, e6, e7⟩, -⟩ := eight hSw.2; go_simp; (try (first | with_reducible rfl | rfl))) ?_; (try simp only [Act.put, List.setIfInBounds_toArray, List.set_cons_zero, List.set_cons_succ])
      refine sc_nil (NoPanic.normal ?_)
      go_wp2
      obtain ⟨⟨q0, q1⟩, q2, q3, q4, q5, q6, q7, q8, q9⟩ := fin_cells (b := W.heap.size + 1) (c := W.heap.size + 1 + 1) (by omega) (HFq.out.next HWD.out).r (HFq.out.next HWD.out).x (.slice (some ⟨g, 0, none⟩) ts.length cap) (.int .i64 (kk : Int)) (.int .i64 yk) (.int .i64 y1) (.int .i64 y2) (S y3) (S yt) (S yn) (.int .i64 yo) (.slice ysv ya.length ycv)
      have hX : ReadsXP _ _ (.mk yk (y1, y2, y3) yt yn yo ya) (EV yk (y1, y2, y3) yt yn yo (.slice ysv ya.length ycv)) := ⟨_, rfl, HAq.out.bl HWD.out⟩
      exact bodyPost_ret (v := .tuple #[RS g ts.length cap kk, EV yk (y1, y2, y3) yt yn yo (.slice ysv ya.length ycv), .int .i64 c]) (by simp [results, Tryz.results38, go_sem, q0, q1, q2, q3, q4, q5, q6, q7, q8, q9]) rfl ⟨kk, _, _, c, HKK.out, fin_readsP hX (fun i hi => ⟨by have := hi.1; omega, by have := hi.1; omega, by have := hi.1; omega⟩) _ _ _ _ _ _ _ _ _ _, rfl, fin_bl (HFq.out.next HWD.out).bl (by omega) (by omega) _ _ _ _ _ _ _ _ _ _, hSay.out⟩
--END1

end Go.Proofs.YtepkfkfedmbmnaaGreatDoor

