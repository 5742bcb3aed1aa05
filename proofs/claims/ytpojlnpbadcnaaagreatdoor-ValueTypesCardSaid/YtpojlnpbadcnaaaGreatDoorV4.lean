/- The small functions: Not, Of, the reference's And, Or, Not, Of, number, num, text. -/
import Derived.Test.YtpojlnpbadcnaaaGreatDoorV3
namespace Go.Proofs.YtpojlnpbadcnaaaGreatDoor
open Go.RowKit
set_option maxRecDepth 100000

def not2 (t : Int) : Int := if t = 0 then 1 else if t = 1 then 0 else 2
def and2 (a b : Int) : Int := if a = 0 ∨ b = 0 then 0 else if a = 1 ∧ b = 1 then 1 else 2
def or2 (a b : Int) : Int := not2 (and2 (not2 a) (not2 b))
/-- A truth as a value: its kind and its number. -/
def ofK (t : Int) : Int := if t = 0 ∨ t = 1 then 1 else 0
def ofN (t : Int) : Int := if t = 0 ∨ t = 1 then t else 0

theorem num_any (n : Int) (_h0 : -9223372036854775808 ≤ n) (_h1 : n ≤ 9223372036854775807) (w : World) : Calls Tryz.prog 12 #[.int .i64 n] w fun e w' => e = .returned (.int .i64 n) ∧ w' = w := by
  go_enter Tryz.func12, Tryz.ntmps12
  go_wp2
  go_ret
  exact ⟨rfl, rfl⟩

theorem Not_any (t : Int) (w : World) : Calls Tryz.prog 16 #[.int .i64 t] w fun e w' => e = .returned (.int .i64 (not2 t)) ∧ w' = w := by
  by_cases h0 : t = 0
  · subst h0
    go_enter Tryz.func16, Tryz.ntmps16
    go_wp2
    go_ret
    exact ⟨rfl, rfl⟩
  by_cases h1 : t = 1
  · subst h1
    go_enter Tryz.func16, Tryz.ntmps16
    go_wp2
    go_ret
    exact ⟨rfl, rfl⟩
  have b0 : (t != 0) = true := by simpa using h0
  have b1 : (t != 1) = true := by simpa using h1
  have e : not2 t = 2 := by simp [not2, h0, h1]
  rw [e]
  clear e
  go_enter Tryz.func16, Tryz.ntmps16
  go_wp2
  go_ret
  exact ⟨rfl, rfl⟩

theorem rNot_any (t : Int) (w : World) : Calls Tryz.prog 30 #[.int .i64 t] w fun e w' => e = .returned (.int .i64 (not2 t)) ∧ w' = w := by
  by_cases h0 : t = 0
  · subst h0
    go_enter Tryz.func30, Tryz.ntmps30
    go_wp2
    go_ret
    exact ⟨rfl, rfl⟩
  by_cases h1 : t = 1
  · subst h1
    go_enter Tryz.func30, Tryz.ntmps30
    go_wp2
    go_ret
    exact ⟨rfl, rfl⟩
  have b0 : (t == 0) = false := by simpa using h0
  have b1 : (t == 1) = false := by simpa using h1
  have e : not2 t = 2 := by simp [not2, h0, h1]
  rw [e]
  clear e
  go_enter Tryz.func30, Tryz.ntmps30
  go_wp2
  go_ret
  exact ⟨rfl, rfl⟩

theorem rAnd_any (a b : Int) (w : World) : Calls Tryz.prog 26 #[.int .i64 a, .int .i64 b] w fun e w' => e = .returned (.int .i64 (and2 a b)) ∧ w' = w := by
  go_enter Tryz.func26, Tryz.ntmps26
  go_wp2
  all_goals (go_ret; refine ⟨ret_int ?_, rfl⟩; simp_all [and2])

theorem And1_any (a b : Int) (w : World) : Calls Tryz.prog 49 #[.int .i64 a, .int .i64 b] w fun e w' => e = .returned (.int .i64 (and2 a b)) ∧ w' = w := by
  go_enter Tryz.func49, Tryz.ntmps49
  go_wp2
  all_goals (go_ret; refine ⟨ret_int ?_, rfl⟩; simp_all [and2])

theorem rOr_any (a b : Int) (w : World) : Calls Tryz.prog 27 #[.int .i64 a, .int .i64 b] w fun e w' => e = .returned (.int .i64 (or2 a b)) ∧ w' = w := by
  go_enter Tryz.func27, Tryz.ntmps27
  go_wp2_with fail
  refine (rNot_any _ _).mono ?_
  rintro e w' ⟨rfl, rfl⟩
  go_wp2_with fail
  refine (rNot_any _ _).mono ?_
  rintro e w' ⟨rfl, rfl⟩
  go_wp2_with fail
  refine (rAnd_any _ _ _).mono ?_
  rintro e w' ⟨rfl, rfl⟩
  go_wp2_with fail
  refine (rNot_any _ _).mono ?_
  rintro e w' ⟨rfl, rfl⟩
  go_wp2
  go_ret
  exact ⟨rfl, rfl⟩

theorem rnumber_any (a b : Int) (w : World) : Calls Tryz.prog 52 #[.int .i64 a, .int .i64 b] w fun e w' => e = .returned (.int .i64 (cmpI a b)) ∧ w' = w := by
  go_enter Tryz.func52, Tryz.ntmps52
  go_wp2
  all_goals (go_ret; exact ⟨ret_int (by unfold cmpI; split <;> (try split) <;> omega), rfl⟩)

theorem text_any (l : List UInt8) (w : World) : Calls Tryz.prog 33 #[S l] w fun e w' => e = .returned (V 3 0 l) ∧ Bl w w' := by
  go_enter Tryz.func33, Tryz.ntmps33
  go_wp2
  exact bodyPost_ret (v := V 3 0 l) (by simp [results, Tryz.results33, go_sem]) rfl ⟨rfl, (Bl.refl _).alloc _⟩

end Go.Proofs.YtpojlnpbadcnaaaGreatDoor
