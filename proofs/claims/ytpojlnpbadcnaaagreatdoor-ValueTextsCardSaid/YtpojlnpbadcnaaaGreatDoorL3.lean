/- ValueTexts: the walk. -/
import Derived.Test.YtpojlnpbadcnaaaGreatDoorL4
namespace Go.Proofs.YtpojlnpbadcnaaaGreatDoor
open Go.RowKit
set_option maxRecDepth 100000

theorem chk_int (k n : Int) (l : List UInt8) : -9223372036854775808 ≤ chk k n l ∧ chk k n l ≤ 9223372036854775807 := by
  unfold chk; split <;> (try split) <;> omega

set_option maxHeartbeats 2000000 in
theorem texts_long (k n : Int) (l : List UInt8) (h : 1100 < l.length) (hm : l.length < 9223372036854775808) (w : World) (hG : Glob w) : Calls Tryz.prog 3 #[V k n l] w (Yes w) := by
  have hB1 := (Bl.refl w).alloc (.cells #[.int .i64 k, .int .i64 n, .string ⟨l.toArray⟩] 24)
  have hG1 := hG.bl hB1
  go_enter Tryz.func3, Tryz.ntmps3
  go_wp2_with (first | (go_at_call 9; (with_reducible refine (works_any _ hG1).mono ?_); rintro e w' ⟨rfl, hb⟩))
  go_ret
  exact ⟨rfl, hB1.call hb⟩

set_option maxHeartbeats 2000000 in
theorem texts_no (k n : Int) (l : List UInt8) (hk0 : -9223372036854775808 ≤ k) (hk1 : k ≤ 9223372036854775807) (h : ¬ chk k n l = 0) (hl : l.length ≤ 1100) (w : World) (hG : Glob w) : Calls Tryz.prog 3 #[V k n l] w (Yes w) := by
  have hb : (chk k n l != 0) = true := by simpa using h
  have hi := chk_int k n l
  have hi0 := hi.1
  have hi1 := hi.2
  have H := Lib.hid h
  clear h hi
  have HW : Hid (∀ W : World, Bl w W → ∀ W', Bl W W' → Glob W') := fun W a W' b => (hG.bl a).bl b
  go_enter Tryz.func3, Tryz.ntmps3
  go_wp2_with fail
  (with_reducible refine (Literal_no k n l H.out _).mono ?_)
  rintro e w1 ⟨rfl, hb1⟩
  have hB1 := ((Bl.refl w).alloc _).call hb1
  have k1 : w1.heap[w.heap.size]? = _ := (hb1.block _ (by simp)).trans (heap_new _ _)
  obtain ⟨a0, a1, a2⟩ := cells3 k1
  clear hb1
  go_wp2_with fail
  (with_reducible refine (rLiteral_no k n l H.out hk0 hk1 _).mono ?_)
  rintro e w2 ⟨rfl, hb2⟩
  have hB2 := hB1.call hb2
  have hG2 := hG.bl hB2
  clear a0 a1 a2 k1 hb2
  generalize chk k n l = ec at *
  go_wp2_with (first | (go_at_call 12; (with_reducible refine (num_any ec hi0 hi1 _).mono ?_); rintro e w' ⟨rfl, rfl⟩) | (go_at_call 9; (with_reducible refine (works_any _ hG2).mono ?_); rintro e w' ⟨rfl, hbz⟩))
  go_ret
  exact ⟨rfl, hB2.call hbz⟩

set_option maxHeartbeats 2000000 in
theorem texts_ok (k n : Int) (l : List UInt8) (hn0 : -9223372036854775808 ≤ n) (hn1 : n ≤ 9223372036854775807) (h : chk k n l = 0) (w : World) (hG : Glob w) : Calls Tryz.prog 3 #[V k n l] w (Yes w) := by
  have hl : l.length ≤ 1100 := by have := (chk_ways h).1; omega
  have H := Lib.hid h
  have HL := Lib.hid (lit_len h ⟨hn0, hn1⟩)
  have HP := Lib.hid (parse_lit h ⟨hn0, hn1⟩)
  clear h
  go_enter Tryz.func3, Tryz.ntmps3
  go_wp2_with fail
  (with_reducible refine (Literal_ok k n l H.out hn0 hn1 _ (hG.alloc _)).mono ?_)
  rintro e w1 ⟨rfl, hb1⟩
  have hB1 := ((Bl.refl w).alloc _).call hb1
  have k1 : w1.heap[w.heap.size]? = _ := (hb1.block _ (by simp)).trans (heap_new _ _)
  obtain ⟨a0, a1, a2⟩ := cells3 k1
  clear hb1
  go_wp2_with fail
  (with_reducible refine (rLiteral_ok k n l H.out hn0 hn1 _).mono ?_)
  rintro e w2 ⟨rfl, hb2⟩
  have hB2 := hB1.call hb2
  have hG2 := hG.bl hB2
  have k2 := (hb2.block _ (heap_lt k1)).trans k1
  clear a0 a1 a2 k1 hb2 hB1
  have hp := Parse_any (lit k n l) HL.out
  rw [HP.out] at hp
  have HR := Lib.hid hp
  clear hp
  generalize lit k n l = s at *
  go_wp2_with (first | (go_at_call 12; (with_reducible refine (num_any 0 (by omega) (by omega) _).mono ?_); rintro e w' ⟨rfl, rfl⟩) | fail)
  (with_reducible refine (HR.out _ hG2).mono ?_)
  rintro e w3 ⟨rfl, hb3⟩
  have hB3 := (hB2.call hb3).alloc (.cells #[.int .i64 k, .int .i64 n, .string ⟨l.toArray⟩] 24)
  have k3 := (hb3.block _ (heap_lt k2)).trans k2
  have k4 := (heap_old w3 (.cells #[.int .i64 k, .int .i64 n, .string ⟨l.toArray⟩] 24) (heap_lt k3)).trans k3
  have m4 := heap_new w3 (.cells #[.int .i64 k, .int .i64 n, .string ⟨l.toArray⟩] 24)
  obtain ⟨a0, a1, a2⟩ := cells3 k4
  obtain ⟨e0, e1, e2⟩ := cells3 m4
  have hG3 := hG.bl hB3
  clear hb3 k2 k3 HR HP hB2
  go_wp2_with (first | (go_at_call 12; (with_reducible refine (num_any 0 (by omega) (by omega) _).mono ?_); rintro e w' ⟨rfl, rfl⟩) | (go_at_call 9; (with_reducible refine (works_any _ hG3).mono ?_); rintro e w' ⟨rfl, hbz⟩))
  go_ret
  exact ⟨rfl, hB3.call hbz⟩

theorem texts_all (k n : Int) (l : List UInt8) (hk0 : -9223372036854775808 ≤ k) (hk1 : k ≤ 9223372036854775807) (hn0 : -9223372036854775808 ≤ n) (hn1 : n ≤ 9223372036854775807) (hm : l.length ≤ maxLen) (w : World) (hG : Glob w) : Calls Tryz.prog 3 #[V k n l] w (Yes w) := by
  by_cases hl : l.length ≤ 1100
  · by_cases h : chk k n l = 0
    · exact texts_ok k n l hn0 hn1 h w hG
    · exact texts_no k n l hk0 hk1 h hl w hG
  · exact texts_long k n l (by omega) (by unfold maxLen at hm; omega) w hG

end Go.Proofs.YtpojlnpbadcnaaaGreatDoor
