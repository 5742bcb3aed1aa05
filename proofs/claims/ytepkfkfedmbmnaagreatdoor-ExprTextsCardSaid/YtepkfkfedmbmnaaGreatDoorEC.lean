/- The program's layer 16: must, caught. -/
import Derived.Test.YtepkfkfedmbmnaaGreatDoorMV
import Derived.Defers
import Derived.Recover
namespace Go.Proofs.YtepkfkfedmbmnaaGreatDoor
open Go.RowKit
set_option maxRecDepth 100000

theorem emust_yes (n : Int) (w : World) :
    Calls Tryz.prog 119 #[.bool true, .int .i64 n] w fun e w' => e = .returned (.tuple #[]) ∧ w = w' := by
  go_enter Tryz.func119, Tryz.ntmps119
  go_wp2
  go_end0
  exact ⟨rfl, rfl⟩
theorem emust_no (n : Int) (w : World) :
    Calls Tryz.prog 119 #[.bool false, .int .i64 n] w fun e w' => e = .panicked [{ v := .iface 31 (.int .i64 n), recovered := false }] ∧ w = w' := by
  go_enter Tryz.func119, Tryz.ntmps119
  go_wp2
  exact ⟨rfl, rfl, rfl⟩

set_option maxHeartbeats 400000 in
theorem ecaught_idle (p : Addr) (g : Value) (w : World) :
    CallsD Tryz.prog 34 #[.pointer (some p), g] .returning w fun e u' w' => e = .returned (.tuple #[]) ∧ u' = .returning ∧ w = w' := by
  refine callsD_of_wpS Tryz.func34 rfl fun c₀ cs hu => ?_
  apply wpS_seq
  apply wpS_region
  simp [wpOpsS, go_sem, recoverD, hu, Tryz.ntmps34, Exit.thenS]
  refine wpS_of_wp ?_
  go_wp2
  cases c₀
  simp_all [bodyPostS, results, Tryz.results34]

set_option maxHeartbeats 400000 in
/-- caught, of a frame that panics with an error: it is laid, and clear is called. -/
theorem ecaught_panic (p : Addr) (x n : Int) (g : FuncId) (first cap args : Array Value) (ha : first ++ cap = args) (w : World) (R : World → Prop) (hc : w.cell? p = some (.int .i64 x)) (hz : w.frozen? p = false)
    (hg : ∀ (args : Array Value) (w : World), (callFunc g args).run Tryz.prog w = .ok (.enter g args) w)
    (hclear : Calls Tryz.prog g args (w.setCell p (.int .i64 n)) fun e w' => e = .returned (.tuple #[]) ∧ R w') :
    CallsD Tryz.prog 34 #[.pointer (some p), .func (.func g) first cap] (.panicking [{ v := .iface 31 (.int .i64 n), recovered := false }]) w fun e u' w' =>
      e = .returned (.tuple #[]) ∧ u' = .panicking [{ v := .iface 31 (.int .i64 n), recovered := true }] ∧ R w' := by
  subst ha
  refine callsD_of_wpS Tryz.func34 rfl fun c₀ cs hu => ?_
  apply wpS_seq
  apply wpS_region
  simp [wpOpsS, go_sem, recoverD, hu, Tryz.ntmps34, Exit.thenS]
  refine wpS_of_wp ?_
  have H := Lib.hid hclear
  clear hclear
  have hta : ∀ w, (Instr.typeAssert (.iface 31 (.int .i64 n)) 20 31 false).run Tryz.prog w = .ok (.int .i64 n) w := fun _ => by kernel_rfl
  rw [show ∀ a b x : Value, #[a, b] ++ (((Array.replicate 12 undef).setIfInBounds 3 x).setIfInBounds 2 x) = #[a, b, undef, undef, x, x, undef, undef, undef, undef, undef, undef, undef, undef] from fun _ _ _ => rfl]
  go_wp2_with fail
  refine H.out.mono ?_
  rintro e w' ⟨rfl, hR⟩
  go_wp2_with fail
  cases c₀
  simp_all [bodyPostS, results, Tryz.results34]

end Go.Proofs.YtepkfkfedmbmnaaGreatDoor
