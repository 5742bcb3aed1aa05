/- value.laid. -/
import Derived.Test.YtpojlnpbadcnaaaGreatDoorV6
import Derived.Test.YtpojlnpbadcnaaaGreatDoorPM
import Derived.Test.YtpojlnpbadcnaaaGreatDoorShelf
namespace Go.Proofs.YtpojlnpbadcnaaaGreatDoor
open Go.RowKit
set_option maxRecDepth 100000

abbrev lE (n : Int) (f : FuncId) (b : Nat) : MapEntry := { key := .int .i64 n, val := .func (.func f) #[] #[], born := b }
abbrev lAll : Array MapEntry := #[lE 0 56 0, lE 1 57 1, lE 2 59 2, lE 3 61 3, lE 4 64 4]
/-- Which function tells the literals of a kind. -/
def laidF (k : Int) : FuncId := if k = 0 then 56 else if k = 1 then 57 else if k = 2 then 59 else if k = 3 then 61 else 64

theorem ins0 (w : World) : (Instr.mapUpdate 69 (.map (some w.heap.size)) (.int .i64 0) (.func (.func 56) #[] #[])).run Tryz.prog (w.alloc (.map #[] 0)) = .ok () (w.alloc (.map #[lE 0 56 0] 1)) :=
  run_insert_int Tryz.underlying69 Tryz.underlying22 w #[] 0 0 _ rfl
theorem ins1 (w : World) : (Instr.mapUpdate 69 (.map (some w.heap.size)) (.int .i64 1) (.func (.func 57) #[] #[])).run Tryz.prog (w.alloc (.map #[lE 0 56 0] 1)) = .ok () (w.alloc (.map #[lE 0 56 0, lE 1 57 1] 2)) :=
  run_insert_int Tryz.underlying69 Tryz.underlying22 w #[lE 0 56 0] 1 1 _ rfl
theorem ins2 (w : World) : (Instr.mapUpdate 69 (.map (some w.heap.size)) (.int .i64 2) (.func (.func 59) #[] #[])).run Tryz.prog (w.alloc (.map #[lE 0 56 0, lE 1 57 1] 2)) = .ok () (w.alloc (.map #[lE 0 56 0, lE 1 57 1, lE 2 59 2] 3)) :=
  run_insert_int Tryz.underlying69 Tryz.underlying22 w #[lE 0 56 0, lE 1 57 1] 2 2 _ rfl
theorem ins3 (w : World) : (Instr.mapUpdate 69 (.map (some w.heap.size)) (.int .i64 3) (.func (.func 61) #[] #[])).run Tryz.prog (w.alloc (.map #[lE 0 56 0, lE 1 57 1, lE 2 59 2] 3)) = .ok () (w.alloc (.map #[lE 0 56 0, lE 1 57 1, lE 2 59 2, lE 3 61 3] 4)) :=
  run_insert_int Tryz.underlying69 Tryz.underlying22 w #[lE 0 56 0, lE 1 57 1, lE 2 59 2] 3 3 _ rfl
theorem ins4 (w : World) : (Instr.mapUpdate 69 (.map (some w.heap.size)) (.int .i64 4) (.func (.func 64) #[] #[])).run Tryz.prog (w.alloc (.map #[lE 0 56 0, lE 1 57 1, lE 2 59 2, lE 3 61 3] 4)) = .ok () (w.alloc (.map lAll 5)) :=
  run_insert_int Tryz.underlying69 Tryz.underlying22 w #[lE 0 56 0, lE 1 57 1, lE 2 59 2, lE 3 61 3] 4 4 _ rfl

set_option maxHeartbeats 400000 in
theorem laid_any (w : World) : Calls Tryz.prog 37 #[] w fun e w' => e = .returned (.map (some w.heap.size)) ∧ w' = w.alloc (.map lAll 5) := by
  have hmm := @run_makeMap Tryz.prog
  have h0 := ins0
  have h1 := ins1
  have h2 := ins2
  have h3 := ins3
  have h4 := ins4
  go_enter Tryz.func37, Tryz.ntmps37
  go_wp2
  go_ret
  exact ⟨rfl, rfl⟩

theorem look_laid {w : World} {r : Nat} (hb : w.heap[r]? = some (.map lAll 5)) {k : Int} (h0 : 0 ≤ k) (h4 : k ≤ 4) :
    (Instr.lookup 69 (.map (some r)) (.int .i64 k) false).run Tryz.prog w = .ok (.func (.func (laidF k)) #[] #[]) w := by
  have hk : k = 0 ∨ k = 1 ∨ k = 2 ∨ k = 3 ∨ k = 4 := by omega
  rcases hk with rfl | rfl | rfl | rfl | rfl
  · exact run_lookup_int Tryz.underlying69 Tryz.underlying22 hb (i := 0) rfl
  · exact run_lookup_int Tryz.underlying69 Tryz.underlying22 hb (i := 1) rfl
  · exact run_lookup_int Tryz.underlying69 Tryz.underlying22 hb (i := 2) rfl
  · exact run_lookup_int Tryz.underlying69 Tryz.underlying22 hb (i := 3) rfl
  · exact run_lookup_int Tryz.underlying69 Tryz.underlying22 hb (i := 4) rfl

end Go.Proofs.YtpojlnpbadcnaaaGreatDoor
