/- ValueOrders: the walk. -/
import Derived.Test.YtpojlnpbadcnaaaGreatDoorL4
import Derived.Test.YtpojlnpbadcnaaaGreatDoorV6
namespace Go.Proofs.YtpojlnpbadcnaaaGreatDoor
open Go.RowKit
set_option maxRecDepth 100000

theorem chk_i64 (k n : Int) (l : List UInt8) : -9223372036854775808 ≤ chk k n l ∧ chk k n l ≤ 9223372036854775807 := by
  unfold chk; split <;> (try split) <;> omega

set_option maxHeartbeats 4000000 in
theorem orders_any (k n : Int) (l : List UInt8) (k' n' : Int) (l' : List UInt8) (t : Int) (hk0 : -9223372036854775808 ≤ k) (hk1 : k ≤ 9223372036854775807) (hk0' : -9223372036854775808 ≤ k') (hk1' : k' ≤ 9223372036854775807)
    (ht0 : -9223372036854775808 ≤ t) (ht1 : t ≤ 9223372036854775807) (hl : l.length ≤ 1100) (hl' : l'.length ≤ 1100) (w : World) (hG : Glob w) : Calls Tryz.prog 6 #[V k n l, V k' n' l', .int .i64 t] w (Yes w) := by
  have hW := ((Bl.refl w).alloc (.cells #[.int .i64 k, .int .i64 n, .string ⟨l.toArray⟩] 24)).alloc (.cells #[.int .i64 k', .int .i64 n', .string ⟨l'.toArray⟩] 24)
  have ka := (heap_old _ (.cells #[.int .i64 k', .int .i64 n', .string ⟨l'.toArray⟩] 24) (heap_lt (heap_new w (.cells #[.int .i64 k, .int .i64 n, .string ⟨l.toArray⟩] 24)))).trans (heap_new w (.cells #[.int .i64 k, .int .i64 n, .string ⟨l.toArray⟩] 24))
  have kb : ((w.alloc (.cells #[.int .i64 k, .int .i64 n, .string ⟨l.toArray⟩] 24)).alloc (.cells #[.int .i64 k', .int .i64 n', .string ⟨l'.toArray⟩] 24)).heap[w.heap.size + 1]? = _ := heap_new' _ _ (by simp)
  go_enter Tryz.func6, Tryz.ntmps6
  go_wp2_with fail
  generalize (w.alloc (.cells #[.int .i64 k, .int .i64 n, .string ⟨l.toArray⟩] 24)).alloc (.cells #[.int .i64 k', .int .i64 n', .string ⟨l'.toArray⟩] 24) = W at *
  obtain ⟨a0, a1, a2⟩ := cells3 ka
  obtain ⟨e0, e1, e2⟩ := cells3 kb
  have HS := Lib.hid (keep7 ⟨a0, a1, a2, e0, e1, e2, hW⟩ ((Bl.refl W).drew))
  have HG : Hid (∀ W', Bl w W' → Glob W') := fun W' h => hG.bl h
  have hc := chk_i64 k n l
  have hc0 := hc.1
  have hc1 := hc.2
  clear a0 a1 a2 e0 e1 e2 hW ka kb hG hc
  go_region_held3 (fun w' => w'.cell? ⟨w.heap.size, 0, none⟩ = some (.int .i64 k) ∧ w'.cell? ⟨w.heap.size, 1, none⟩ = some (.int .i64 n) ∧ w'.cell? ⟨w.heap.size, 2, none⟩ = some (.string ⟨l.toArray⟩) ∧ w'.cell? ⟨w.heap.size + 1, 0, none⟩ = some (.int .i64 k') ∧ w'.cell? ⟨w.heap.size + 1, 1, none⟩ = some (.int .i64 n') ∧ w'.cell? ⟨w.heap.size + 1, 2, none⟩ = some (.string ⟨l'.toArray⟩) ∧ Bl w w')
    (first | exact HS.out | assumption | exact keep7 (by assumption) hb | exact keep7 (by assumption) ((Bl.refl _).alloc _))
    (first
      | (go_at_call 19; (with_reducible refine (Check_any k n l _).mono ?_); rintro e w' ⟨rfl, hb⟩)
      | (go_at_call 20; (with_reducible refine (rCheck_any k n l hk0 hk1 _).mono ?_); rintro e w' ⟨rfl, hb⟩)
      | (go_at_call 15; (with_reducible refine (Order_any k n l k' n' l' _).mono ?_); rintro e w' ⟨rfl, hb⟩)
      | (go_at_call 21; (with_reducible refine (rOrder_any k n l k' n' l' hk0 hk1 hk0' hk1' _).mono ?_); rintro e w' ⟨rfl, hb⟩)
      | (go_at_call 22; (with_reducible refine (Is_any k n l t hk0 hk1 ht0 ht1 _).mono ?_); rintro e w' ⟨rfl, hb⟩)
      | (go_at_call 23; (with_reducible refine (rIs_any k n l t hk0 hk1 _).mono ?_); rintro e w' ⟨rfl, hb⟩)
      | (go_at_call 12; (with_reducible refine (num_any (chk k n l) hc0 hc1 _).mono ?_); rintro e w' ⟨rfl, rfl⟩)
      | (go_at_call 9; (have hGw := HG.out _ (seventh (by assumption))); (with_reducible refine (works_any _ hGw).mono ?_); rintro e w' ⟨rfl, hb⟩))
  have hlast := seventh (w := w) (B := w') (by assumption)
  go_wp2
  go_ret
  exact ⟨rfl, hlast⟩

set_option maxHeartbeats 2000000 in
theorem orders_long (k n : Int) (l : List UInt8) (k' n' : Int) (l' : List UInt8) (t : Int) (hm : l.length ≤ maxLen) (hm' : l'.length ≤ maxLen) (h : ¬ (l.length ≤ 1100 ∧ l'.length ≤ 1100)) (w : World) (hG : Glob w) : Calls Tryz.prog 6 #[V k n l, V k' n' l', .int .i64 t] w (Yes w) := by
  have hB1 := ((Bl.refl w).alloc (.cells #[.int .i64 k, .int .i64 n, .string ⟨l.toArray⟩] 24)).alloc (.cells #[.int .i64 k', .int .i64 n', .string ⟨l'.toArray⟩] 24)
  have hG1 := hG.bl hB1
  unfold maxLen at hm hm'
  by_cases h1 : 1100 < l.length
  · clear h
    go_enter Tryz.func6, Tryz.ntmps6
    go_wp2_with (first | (go_at_call 9; (with_reducible refine (works_any _ hG1).mono ?_); rintro e w' ⟨rfl, hb⟩))
    go_ret
    exact ⟨rfl, hB1.call hb⟩
  · have h2 : 1100 < l'.length := by omega
    clear h
    go_enter Tryz.func6, Tryz.ntmps6
    go_wp2_with (first | (go_at_call 9; (with_reducible refine (works_any _ hG1).mono ?_); rintro e w' ⟨rfl, hb⟩))
    go_ret
    exact ⟨rfl, hB1.call hb⟩

theorem orders_all (k n : Int) (l : List UInt8) (k' n' : Int) (l' : List UInt8) (t : Int) (hk : -9223372036854775808 ≤ k ∧ k ≤ 9223372036854775807) (hk' : -9223372036854775808 ≤ k' ∧ k' ≤ 9223372036854775807)
    (ht : -9223372036854775808 ≤ t ∧ t ≤ 9223372036854775807) (hm : l.length ≤ maxLen) (hm' : l'.length ≤ maxLen) (w : World) (hG : Glob w) : Calls Tryz.prog 6 #[V k n l, V k' n' l', .int .i64 t] w (Yes w) := by
  by_cases h : l.length ≤ 1100 ∧ l'.length ≤ 1100
  · exact orders_any k n l k' n' l' t hk.1 hk.2 hk'.1 hk'.2 ht.1 ht.2 h.1 h.2 w hG
  · exact orders_long k n l k' n' l' t hm hm' h w hG

end Go.Proofs.YtpojlnpbadcnaaaGreatDoor
