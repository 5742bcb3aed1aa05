/- value.laid. -/
import Derived.Test.YtdhaddldmooniaaGreatDoorMV
import Derived.Test.YtdhaddldmooniaaGreatDoorPM
import Derived.Test.YtdhaddldmooniaaGreatDoorShelf
namespace Go.Proofs.YtdhaddldmooniaaGreatDoor
open Go.RowKit
set_option maxRecDepth 100000

abbrev lE (n : Int) (f : FuncId) (b : Nat) : MapEntry := { key := .int .i64 n, val := .func (.func f) #[] #[], born := b }
abbrev lAll : Array MapEntry := #[lE 0 90 0, lE 1 91 1, lE 2 93 2, lE 3 94 3, lE 4 97 4]
/-- Which function tells the literals of a kind. -/
def laidF (k : Int) : FuncId := if k = 0 then 90 else if k = 1 then 91 else if k = 2 then 93 else if k = 3 then 94 else 97

theorem ins0 (w : World) : (Instr.mapUpdate 112 (.map (some w.heap.size)) (.int .i64 0) (.func (.func 90) #[] #[])).run Tryz.prog (w.alloc (.map #[] 0)) = .ok () (w.alloc (.map #[lE 0 90 0] 1)) :=
  run_insert_int Tryz.underlying112 Tryz.underlying30 w #[] 0 0 _ rfl
theorem ins1 (w : World) : (Instr.mapUpdate 112 (.map (some w.heap.size)) (.int .i64 1) (.func (.func 91) #[] #[])).run Tryz.prog (w.alloc (.map #[lE 0 90 0] 1)) = .ok () (w.alloc (.map #[lE 0 90 0, lE 1 91 1] 2)) :=
  run_insert_int Tryz.underlying112 Tryz.underlying30 w #[lE 0 90 0] 1 1 _ rfl
theorem ins2 (w : World) : (Instr.mapUpdate 112 (.map (some w.heap.size)) (.int .i64 2) (.func (.func 93) #[] #[])).run Tryz.prog (w.alloc (.map #[lE 0 90 0, lE 1 91 1] 2)) = .ok () (w.alloc (.map #[lE 0 90 0, lE 1 91 1, lE 2 93 2] 3)) :=
  run_insert_int Tryz.underlying112 Tryz.underlying30 w #[lE 0 90 0, lE 1 91 1] 2 2 _ rfl
theorem ins3 (w : World) : (Instr.mapUpdate 112 (.map (some w.heap.size)) (.int .i64 3) (.func (.func 94) #[] #[])).run Tryz.prog (w.alloc (.map #[lE 0 90 0, lE 1 91 1, lE 2 93 2] 3)) = .ok () (w.alloc (.map #[lE 0 90 0, lE 1 91 1, lE 2 93 2, lE 3 94 3] 4)) :=
  run_insert_int Tryz.underlying112 Tryz.underlying30 w #[lE 0 90 0, lE 1 91 1, lE 2 93 2] 3 3 _ rfl
theorem ins4 (w : World) : (Instr.mapUpdate 112 (.map (some w.heap.size)) (.int .i64 4) (.func (.func 97) #[] #[])).run Tryz.prog (w.alloc (.map #[lE 0 90 0, lE 1 91 1, lE 2 93 2, lE 3 94 3] 4)) = .ok () (w.alloc (.map lAll 5)) :=
  run_insert_int Tryz.underlying112 Tryz.underlying30 w #[lE 0 90 0, lE 1 91 1, lE 2 93 2, lE 3 94 3] 4 4 _ rfl

set_option maxHeartbeats 400000 in
theorem laid_any (w : World) : Calls Tryz.prog 77 #[] w fun e w' => e = .returned (.map (some w.heap.size)) ∧ w' = w.alloc (.map lAll 5) := by
  have hmm := @run_makeMap Tryz.prog
  have h0 := ins0
  have h1 := ins1
  have h2 := ins2
  have h3 := ins3
  have h4 := ins4
  go_enter Tryz.func77, Tryz.ntmps77
  go_wp2
  go_ret
  exact ⟨rfl, rfl⟩

theorem look_laid {w : World} {r : Nat} (hb : w.heap[r]? = some (.map lAll 5)) {k : Int} (h0 : 0 ≤ k) (h4 : k ≤ 4) :
    (Instr.lookup 112 (.map (some r)) (.int .i64 k) false).run Tryz.prog w = .ok (.func (.func (laidF k)) #[] #[]) w := by
  have hk : k = 0 ∨ k = 1 ∨ k = 2 ∨ k = 3 ∨ k = 4 := by omega
  rcases hk with rfl | rfl | rfl | rfl | rfl
  · exact run_lookup_int Tryz.underlying112 Tryz.underlying30 hb (i := 0) rfl
  · exact run_lookup_int Tryz.underlying112 Tryz.underlying30 hb (i := 1) rfl
  · exact run_lookup_int Tryz.underlying112 Tryz.underlying30 hb (i := 2) rfl
  · exact run_lookup_int Tryz.underlying112 Tryz.underlying30 hb (i := 3) rfl
  · exact run_lookup_int Tryz.underlying112 Tryz.underlying30 hb (i := 4) rfl

end Go.Proofs.YtdhaddldmooniaaGreatDoor
