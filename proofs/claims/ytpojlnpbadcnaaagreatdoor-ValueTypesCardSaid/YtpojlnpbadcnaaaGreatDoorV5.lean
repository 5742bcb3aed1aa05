/- Of, Known, Is, and the reference's Check, Order, Known, Of, Is. -/
import Derived.Test.YtpojlnpbadcnaaaGreatDoorV2
import Derived.Test.YtpojlnpbadcnaaaGreatDoorV4
namespace Go.Proofs.YtpojlnpbadcnaaaGreatDoor
open Go.RowKit
set_option maxRecDepth 100000

def knownR (k n : Int) (l : List UInt8) : Int := if chk k n l ≠ 0 then -1 else if k = 0 then 2 else if k = 1 then n else -1
def isT (k n : Int) (l : List UInt8) (t : Int) : Bool := decide (chk k n l = 0 ∧ 1 ≤ t ∧ t ≤ 4 ∧ (k = t ∨ k = 0))

theorem Of_any (t : Int) (h0 : -9223372036854775808 ≤ t) (h1 : t ≤ 9223372036854775807) (w : World) : Calls Tryz.prog 31 #[.int .i64 t] w fun e w' => e = .returned (V (ofK t) (ofN t) []) ∧ Bl w w' := by
  by_cases e0 : t = 0
  · subst e0
    go_enter Tryz.func31, Tryz.ntmps31
    go_wp2
    exact bodyPost_ret (v := V 1 0 []) (by simp [results, Tryz.results31, go_sem]) rfl ⟨rfl, (Bl.refl _).alloc _⟩
  by_cases e1 : t = 1
  · subst e1
    go_enter Tryz.func31, Tryz.ntmps31
    go_wp2
    exact bodyPost_ret (v := V 1 1 []) (by simp [results, Tryz.results31, go_sem]) rfl ⟨rfl, (Bl.refl _).alloc _⟩
  have b0 : (t != 0) = true := by simpa using e0
  have b1 : (t != 1) = true := by simpa using e1
  have e : ofK t = 0 := by simp [ofK, e0, e1]
  have e' : ofN t = 0 := by simp [ofN, e0, e1]
  rw [e, e']
  clear e e'
  go_enter Tryz.func31, Tryz.ntmps31
  go_wp2
  exact bodyPost_ret (v := V 0 0 []) (by simp [results, Tryz.results31, go_sem]) rfl ⟨rfl, (Bl.refl _).alloc _⟩

theorem rOf_any (t : Int) (h0 : -9223372036854775808 ≤ t) (h1 : t ≤ 9223372036854775807) (w : World) : Calls Tryz.prog 32 #[.int .i64 t] w fun e w' => e = .returned (V (ofK t) (ofN t) []) ∧ Bl w w' := by
  by_cases e0 : t = 0
  · subst e0
    go_enter Tryz.func32, Tryz.ntmps32
    go_wp2
    exact bodyPost_ret (v := V 1 0 []) (by simp [results, Tryz.results32, go_sem]) rfl ⟨rfl, (Bl.refl _).alloc _⟩
  by_cases e1 : t = 1
  · subst e1
    go_enter Tryz.func32, Tryz.ntmps32
    go_wp2
    exact bodyPost_ret (v := V 1 1 []) (by simp [results, Tryz.results32, go_sem]) rfl ⟨rfl, (Bl.refl _).alloc _⟩
  have b0 : (t == 0) = false := by simpa using e0
  have b1 : (t == 1) = false := by simpa using e1
  have e : ofK t = 0 := by simp [ofK, e0, e1]
  have e' : ofN t = 0 := by simp [ofN, e0, e1]
  rw [e, e']
  clear e e'
  go_enter Tryz.func32, Tryz.ntmps32
  go_wp2
  exact bodyPost_ret (v := V 0 0 []) (by simp [results, Tryz.results32, go_sem]) rfl ⟨rfl, (Bl.refl _).alloc _⟩

set_option maxHeartbeats 1000000 in
theorem rCheck_any (k n : Int) (l : List UInt8) (hk0 : -9223372036854775808 ≤ k) (hk1 : k ≤ 9223372036854775807) (w : World) : Calls Tryz.prog 20 #[V k n l] w fun e w' => e = .returned (.int .i64 (chk k n l)) ∧ Bl w w' := by
  go_enter Tryz.func20, Tryz.ntmps20
  go_wp2
  all_goals
    go_ret
    refine ⟨ret_int ?_, (Bl.refl _).alloc _⟩
    clear hk0 hk1
    first
      | (unfold chk; rw [if_pos (by omega)])
      | (unfold chk; rw [if_neg (by first | omega | simp), if_pos (by first | omega | (simp; done) | (simp_all; done) | (simp_all; omega))])
      | (unfold chk; rw [if_neg (by first | omega | simp), if_neg (by first | omega | (simp; done) | (simp_all; done) | (simp_all; omega))])

set_option maxHeartbeats 1000000 in
theorem rOrder_any (k n : Int) (l : List UInt8) (k' n' : Int) (l' : List UInt8) (_hk0 : -9223372036854775808 ≤ k) (_hk1 : k ≤ 9223372036854775807) (_hk0' : -9223372036854775808 ≤ k') (_hk1' : k' ≤ 9223372036854775807) (w : World) :
    Calls Tryz.prog 21 #[V k n l, V k' n' l'] w fun e w' => e = .returned (.int .i64 (cmpV k n l k' n' l')) ∧ Bl w w' := by
  go_enter Tryz.func21, Tryz.ntmps21
  go_wp2_with ((go_at_call 52; (with_reducible refine (rnumber_any _ _ _).mono ?_); rintro e w' ⟨rfl, rfl⟩))
  all_goals
    go_ret
    refine ⟨ret_int ?_, ((Bl.refl _).alloc _).alloc _⟩
    simp_all [cmpV, first3, cmpS]

end Go.Proofs.YtpojlnpbadcnaaaGreatDoor
