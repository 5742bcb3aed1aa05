/- cmp.Compare, cmp.Or and value.Order. -/
import Derived.Test.YtpojlnpbadcnaaaGreatDoorV1
import Derived.Lib.Hide
import Derived.StillTailTactics
namespace Go.Proofs.YtpojlnpbadcnaaaGreatDoor
open Go.RowKit
set_option maxRecDepth 100000

def cmpI (a b : Int) : Int := if a < b then -1 else if b < a then 1 else 0
def cmpS (a b : List UInt8) : Int := if Op.bytesLess a b then -1 else if a = b then 0 else 1
def first3 (x y z : Int) : Int := if x ≠ 0 then x else if y ≠ 0 then y else z
def cmpV (k n : Int) (l : List UInt8) (k' n' : Int) (l' : List UInt8) : Int := first3 (cmpI k k') (cmpI n n') (cmpS l l')

theorem cmpKind_any (a b : Int) (w : World) : Calls Tryz.prog 45 #[.int .i64 a, .int .i64 b] w fun e w' => e = .returned (.int .i64 (cmpI a b)) ∧ w' = w := by
  go_enter Tryz.func45, Tryz.ntmps45
  go_wp2
  all_goals (go_ret; exact ⟨ret_int (by unfold cmpI; split <;> (try split) <;> omega), rfl⟩)
theorem cmpInt64_any (a b : Int) (w : World) : Calls Tryz.prog 46 #[.int .i64 a, .int .i64 b] w fun e w' => e = .returned (.int .i64 (cmpI a b)) ∧ w' = w := by
  go_enter Tryz.func46, Tryz.ntmps46
  go_wp2
  all_goals (go_ret; exact ⟨ret_int (by unfold cmpI; split <;> (try split) <;> omega), rfl⟩)
theorem cmpString_any (a b : List UInt8) (w : World) : Calls Tryz.prog 47 #[S a, S b] w fun e w' => e = .returned (.int .i64 (cmpS a b)) ∧ w' = w := by
  go_enter Tryz.func47, Tryz.ntmps47
  go_wp2
  all_goals
    go_ret
    refine ⟨ret_int ?_, rfl⟩
    unfold cmpS
    simp_all

set_option maxHeartbeats 400000 in
theorem cmpOr_any (b : Nat) (x y z : Int) (w : World) (h0 : w.cell? ⟨b, 0, none⟩ = some (.int .i64 x)) (h1 : w.cell? ⟨b, 1, none⟩ = some (.int .i64 y)) (h2 : w.cell? ⟨b, 2, none⟩ = some (.int .i64 z)) :
    Calls Tryz.prog 44 #[.slice (some ⟨b, 0, none⟩) 3 3] w fun e w' => e = .returned (.int .i64 (first3 x y z)) ∧ w' = w := by
  go_enter Tryz.func44, Tryz.ntmps44
  go_wp2
  refine wp_loop_rounds 4 ?_
  rw [rounds_succ]
  go_wp2
  · have hx : x ≠ 0 := by simpa using ‹(x != 0) = true›
    go_ret
    exact ⟨ret_int (by simp [first3, hx]), rfl⟩
  have hx : x = 0 := by simpa using ‹(x != 0) = false›
  have X := Lib.hid hx
  clear hx
  rw [rounds_succ]
  go_wp2
  · have hy : y ≠ 0 := by simpa using ‹(y != 0) = true›
    go_ret
    exact ⟨ret_int (by simp [first3, X.out, hy]), rfl⟩
  have hy : y = 0 := by simpa using ‹(y != 0) = false›
  have Y := Lib.hid hy
  clear hy
  rw [rounds_succ]
  go_wp2
  · go_ret
    exact ⟨ret_int (by simp [first3, X.out, Y.out]), rfl⟩
  have hz : z = 0 := by simpa using ‹(z != 0) = false›
  have Z := Lib.hid hz
  clear hz
  rw [rounds_succ]
  go_wp2
  go_ret
  exact ⟨ret_int (by simp [first3, X.out, Y.out, Z.out]), rfl⟩

set_option maxHeartbeats 400000 in
theorem Order_any (k n : Int) (l : List UInt8) (k' n' : Int) (l' : List UInt8) (w : World) :
    Calls Tryz.prog 15 #[V k n l, V k' n' l'] w fun e w' => e = .returned (.int .i64 (cmpV k n l k' n' l')) ∧ Below w.heap.size w w' := by
  go_enter Tryz.func15, Tryz.ntmps15
  go_wp2_with fail
  refine region_tail 15 (by kernel_rfl) (by kernel_rfl) ?_
  simp only [List.take_succ_cons, List.take_zero, List.drop_succ_cons, List.drop_zero]
  repeat still_step
  still_call (cmpKind_any _ _ _)
  repeat still_step
  still_call (cmpInt64_any _ _ _)
  repeat still_step
  still_call (cmpString_any _ _ _)
  refine wpStill_nil ?_
  go_wp2_with fail
  refine (cmpOr_any (w.heap.size + 1 + 1) (cmpI k k') (cmpI n n') (cmpS l l') _ (by simp [go_sem]) (by simp [go_sem]) (by simp [go_sem])).mono ?_
  rintro e w' ⟨rfl, rfl⟩
  go_wp2
  go_ret
  exact ⟨rfl, ((((Bl.refl w).alloc _).alloc _).alloc _).drew⟩

end Go.Proofs.YtpojlnpbadcnaaaGreatDoor
