/- The program's operators: rows, Info. The program's Info. -/
import Derived.Test.YtepkfkfedmbmnaaGreatDoorMX
import Derived.Test.YtepkfkfedmbmnaaGreatDoorX1
import Derived.Test.YtepkfkfedmbmnaaGreatDoorMW
namespace Go.Proofs.YtepkfkfedmbmnaaGreatDoor
open Go.RowKit
set_option maxRecDepth 100000

/-- The table of the operators. -/
def opsC : Array Value := #[.string ⟨#[]⟩, .int .i64 0, .int .i64 0, .int .i64 0, .string ⟨#[43]⟩, .int .i64 2, .int .i64 2, .int .i64 2, .string ⟨#[45]⟩, .int .i64 2, .int .i64 2, .int .i64 2, .string ⟨#[42]⟩, .int .i64 2, .int .i64 2, .int .i64 2, .string ⟨#[47]⟩, .int .i64 2, .int .i64 2, .int .i64 2, .string ⟨#[37]⟩, .int .i64 2, .int .i64 2, .int .i64 2, .string ⟨#[124, 124]⟩, .int .i64 2, .int .i64 0, .int .i64 0, .string ⟨#[61]⟩, .int .i64 2, .int .i64 0, .int .i64 1, .string ⟨#[60, 62]⟩, .int .i64 2, .int .i64 0, .int .i64 1, .string ⟨#[60]⟩, .int .i64 2, .int .i64 0, .int .i64 1, .string ⟨#[60, 61]⟩, .int .i64 2, .int .i64 0, .int .i64 1, .string ⟨#[62]⟩, .int .i64 2, .int .i64 0, .int .i64 1, .string ⟨#[62, 61]⟩, .int .i64 2, .int .i64 0, .int .i64 1, .string ⟨#[97, 110, 100]⟩, .int .i64 2, .int .i64 1, .int .i64 1, .string ⟨#[111, 114]⟩, .int .i64 2, .int .i64 1, .int .i64 1, .string ⟨#[45]⟩, .int .i64 1, .int .i64 2, .int .i64 2, .string ⟨#[110, 111, 116]⟩, .int .i64 1, .int .i64 1, .int .i64 1, .string ⟨#[105, 115, 32, 110, 117, 108, 108]⟩, .int .i64 1, .int .i64 0, .int .i64 1, .string ⟨#[105, 115, 32, 110, 111, 116, 32, 110, 117, 108, 108]⟩, .int .i64 1, .int .i64 0, .int .i64 1, .string ⟨#[108, 101, 110, 103, 116, 104]⟩, .int .i64 1, .int .i64 0, .int .i64 2, .string ⟨#[97, 98, 115]⟩, .int .i64 1, .int .i64 2, .int .i64 2]
def opsZ : Array Value := #[.string ⟨#[]⟩, .int .i64 0, .int .i64 0, .int .i64 0, .string ⟨#[]⟩, .int .i64 0, .int .i64 0, .int .i64 0, .string ⟨#[]⟩, .int .i64 0, .int .i64 0, .int .i64 0, .string ⟨#[]⟩, .int .i64 0, .int .i64 0, .int .i64 0, .string ⟨#[]⟩, .int .i64 0, .int .i64 0, .int .i64 0, .string ⟨#[]⟩, .int .i64 0, .int .i64 0, .int .i64 0, .string ⟨#[]⟩, .int .i64 0, .int .i64 0, .int .i64 0, .string ⟨#[]⟩, .int .i64 0, .int .i64 0, .int .i64 0, .string ⟨#[]⟩, .int .i64 0, .int .i64 0, .int .i64 0, .string ⟨#[]⟩, .int .i64 0, .int .i64 0, .int .i64 0, .string ⟨#[]⟩, .int .i64 0, .int .i64 0, .int .i64 0, .string ⟨#[]⟩, .int .i64 0, .int .i64 0, .int .i64 0, .string ⟨#[]⟩, .int .i64 0, .int .i64 0, .int .i64 0, .string ⟨#[]⟩, .int .i64 0, .int .i64 0, .int .i64 0, .string ⟨#[]⟩, .int .i64 0, .int .i64 0, .int .i64 0, .string ⟨#[]⟩, .int .i64 0, .int .i64 0, .int .i64 0, .string ⟨#[]⟩, .int .i64 0, .int .i64 0, .int .i64 0, .string ⟨#[]⟩, .int .i64 0, .int .i64 0, .int .i64 0, .string ⟨#[]⟩, .int .i64 0, .int .i64 0, .int .i64 0, .string ⟨#[]⟩, .int .i64 0, .int .i64 0, .int .i64 0, .string ⟨#[]⟩, .int .i64 0, .int .i64 0, .int .i64 0]
theorem opsInfo : (Tryz.prog.info? 149).map (·.size) = some 84 := by kernel_rfl
--BEGIN1
set_option maxHeartbeats 16000000 in
theorem srows_any (w : World) : Calls Tryz.prog 111 #[] w fun e w' => e = .returned (.agg opsC) ∧ w' = w.alloc (.cells opsC 149) := by
  have hst := fun (w : World) => run_storeAt_new (P := Tryz.prog) w 149 opsZ opsC opsInfo rfl (by kernel_rfl)
  have hzv : ∀ w, (zeroValue 149).run Tryz.prog w = .ok (.agg opsZ) w := fun _ => by kernel_rfl
  go_enter Tryz.func111, Tryz.ntmps111
  go_wp2_with (first
    | (refine wpList_store_row rfl 149 (.tmp 0) (.tmp 52) rfl w.heap.size opsC rfl (by kernel_rfl) 149 opsZ (heap_new w _) opsInfo rfl (by kernel_rfl) ?_))
  have hW : ((w.alloc (.cells opsZ 149)).setRow w.heap.size opsC) = w.alloc (.cells opsC 149) := World.setRow_alloc_new w opsZ opsC 149
  refine bodyPost_ret (v := .agg opsC) (results_cell_row (p := 0) (ty := 149) rfl _ _ w.heap.size 149 opsC (0, 0) (.array 21 88) rfl ?_ (by kernel_rfl) rfl opsInfo) rfl ⟨rfl, hW⟩
  exact (congrArg (fun W : World => W.heap[w.heap.size]?) hW).trans (heap_new w _)
--END1
--BEGIN2
set_option maxHeartbeats 4000000 in
theorem sInfo_out (o : Int) (h : ¬ (1 ≤ o ∧ o ≤ 20)) (w : World) : Calls Tryz.prog 74 #[.int .i64 o] w fun e w' => e = .returned (.tuple #[.agg #[.string ⟨#[]⟩, .int .i64 0, .int .i64 0, .int .i64 0], .bool false]) ∧ Bl w w' := by
  have h1 : o ≤ 0 ∨ (¬ o ≤ 0 ∧ 20 < o) := by omega
  clear h
  rcases h1 with h1 | ⟨h1, h2⟩
  all_goals
    go_enter Tryz.func74, Tryz.ntmps74
    go_wp2
    exact bodyPost_ret (v := .tuple #[.agg #[.string ⟨#[]⟩, .int .i64 0, .int .i64 0, .int .i64 0], .bool false]) (by simp [results, Tryz.results74, go_sem]) rfl ⟨rfl, (Bl.refl w).alloc _⟩
--END2

end Go.Proofs.YtepkfkfedmbmnaaGreatDoor

namespace Go.Proofs.YtepkfkfedmbmnaaGreatDoor
open Go.RowKit
set_option maxRecDepth 100000
theorem srows_cs : ∃ cs : Array Value, Hid (cs = opsC) ∧ ∀ w, Calls Tryz.prog 111 #[] w fun e w' => e = .returned (.agg cs) ∧ w' = w.alloc (.cells cs 149) := ⟨opsC, rfl, srows_any⟩
theorem ops_index (o : Int) (h : 1 ≤ o ∧ o ≤ 20) (w : World) : Sem.run Tryz.prog (Instr.index 149 (.agg opsC) (.int .i64 o)) w = .ok (.agg #[S (opName o), .int .i64 (opMany o : Int), .int .i64 (opOf o), .int .i64 (opMakes o)]) w := by
  rcases twenty h with rfl | rfl | rfl | rfl | rfl | rfl | rfl | rfl | rfl | rfl | rfl | rfl | rfl | rfl | rfl | rfl | rfl | rfl | rfl | rfl
  all_goals rfl
set_option maxHeartbeats 4000000 in
theorem sInfo_in (o : Int) (h : 1 ≤ o ∧ o ≤ 20) (w : World) : Calls Tryz.prog 74 #[.int .i64 o] w fun e w' => e = .returned (.tuple #[.agg #[S (opName o), .int .i64 (opMany o : Int), .int .i64 (opOf o), .int .i64 (opMakes o)], .bool true]) ∧ Bl w w' := by
  obtain ⟨cs, HC, hrows⟩ := srows_cs
  have HR := Lib.hid hrows
  have hidx : ∀ w, Sem.run Tryz.prog (Instr.index 149 (.agg cs) (.int .i64 o)) w = .ok (.agg #[S (opName o), .int .i64 (opMany o : Int), .int .i64 (opOf o), .int .i64 (opMakes o)]) w := by
    rw [HC.out]
    exact ops_index o h
  clear hrows HC
  have h1 : ¬ o ≤ 0 := by omega
  have h2 : ¬ 20 < o := by omega
  clear h
  go_enter Tryz.func74, Tryz.ntmps74
  go_wp2_with fail
  (with_reducible refine (HR.out _).mono ?_)
  rintro e w1 ⟨rfl, rfl⟩
  go_wp2
  refine bodyPost_ret (v := .tuple #[.agg #[S (opName o), .int .i64 (opMany o : Int), .int .i64 (opOf o), .int .i64 (opMakes o)], .bool true]) ?_ rfl ⟨rfl, ((Bl.refl w).alloc _).alloc _⟩
  simp [results, Tryz.results74, go_sem]
end Go.Proofs.YtepkfkfedmbmnaaGreatDoor

