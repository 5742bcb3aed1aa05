/- value.Literal. -/
import Derived.Test.YtdhaddldmooniaaGreatDoorMV
import Derived.Test.YtdhaddldmooniaaGreatDoorVG
import Derived.Deep.RegionHeld3
namespace Go.Proofs.YtdhaddldmooniaaGreatDoor
open Go.RowKit
set_option maxRecDepth 100000

theorem chk_cases {k n : Int} {l : List UInt8} (h : chk k n l = 0) : l.length ≤ 1000 ∧ 0 ≤ k ∧ k ≤ 4 := by
  unfold chk at h
  split at h
  · cases h
  · split at h
    · refine ⟨by omega, ?_, ?_⟩ <;> omega
    · cases h

theorem tells_any (k n : Int) (l : List UInt8) (h : chk k n l = 0) (h0 : -9223372036854775808 ≤ n) (h1 : n ≤ 9223372036854775807) (w : World) (hG : Glob w) :
    Calls Tryz.prog (laidF k) #[V k n l] w fun e w' => e = .returned (S (lit k n l)) ∧ Bl w w' := by
  obtain ⟨hl, k0, k4⟩ := chk_cases h
  have hk : k = 0 ∨ k = 1 ∨ k = 2 ∨ k = 3 ∨ k = 4 := by omega
  rcases hk with rfl | rfl | rfl | rfl | rfl
  · exact laid1_any 0 n l w
  · exact laid2_any 1 n l w
  · exact laid3_any 2 n l h0 h1 w hG
  · exact laid4_any 3 n l hl w hG
  · exact laid5_any 4 n l hl w

theorem enters_laidF (k : Int) (args : Array Value) (w : World) : (callFunc (laidF k) args).run Tryz.prog w = .ok (.enter (laidF k) args) w := by
  unfold laidF
  split
  · simp [go_sem]
  split
  · simp [go_sem]
  split
  · simp [go_sem]
  split
  · simp [go_sem]
  · simp [go_sem]

end Go.Proofs.YtdhaddldmooniaaGreatDoor
