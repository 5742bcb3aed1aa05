/- Of, Known, Is, and the reference's Check, Order, Known, Of, Is. -/
import Derived.Test.YtdhaddldmooniaaGreatDoorV2
import Derived.Test.YtdhaddldmooniaaGreatDoorV4
namespace Go.Proofs.YtdhaddldmooniaaGreatDoor
open Go.RowKit
set_option maxRecDepth 100000

def knownR (k n : Int) (l : List UInt8) : Int := if chk k n l ≠ 0 then -1 else if k = 0 then 2 else if k = 1 then n else -1
def isT (k n : Int) (l : List UInt8) (t : Int) : Bool := decide (chk k n l = 0 ∧ 1 ≤ t ∧ t ≤ 4 ∧ (k = t ∨ k = 0))

theorem Of_any (t : Int) (h0 : -9223372036854775808 ≤ t) (h1 : t ≤ 9223372036854775807) (w : World) : Calls Tryz.prog 76 #[.int .i64 t] w fun e w' => e = .returned (V (ofK t) (ofN t) []) ∧ Bl w w' := by
  by_cases e0 : t = 0
  · subst e0
    go_enter Tryz.func76, Tryz.ntmps76
    go_wp2
    exact bodyPost_ret (v := V 1 0 []) (by simp [results, Tryz.results76, go_sem]) rfl ⟨rfl, (Bl.refl _).alloc _⟩
  by_cases e1 : t = 1
  · subst e1
    go_enter Tryz.func76, Tryz.ntmps76
    go_wp2
    exact bodyPost_ret (v := V 1 1 []) (by simp [results, Tryz.results76, go_sem]) rfl ⟨rfl, (Bl.refl _).alloc _⟩
  have b0 : (t != 0) = true := by simpa using e0
  have b1 : (t != 1) = true := by simpa using e1
  have e : ofK t = 0 := by simp [ofK, e0, e1]
  have e' : ofN t = 0 := by simp [ofN, e0, e1]
  rw [e, e']
  clear e e'
  go_enter Tryz.func76, Tryz.ntmps76
  go_wp2
  exact bodyPost_ret (v := V 0 0 []) (by simp [results, Tryz.results76, go_sem]) rfl ⟨rfl, (Bl.refl _).alloc _⟩

theorem rOf_any (t : Int) (h0 : -9223372036854775808 ≤ t) (h1 : t ≤ 9223372036854775807) (w : World) : Calls Tryz.prog 50 #[.int .i64 t] w fun e w' => e = .returned (V (ofK t) (ofN t) []) ∧ Bl w w' := by
  by_cases e0 : t = 0
  · subst e0
    go_enter Tryz.func50, Tryz.ntmps50
    go_wp2
    exact bodyPost_ret (v := V 1 0 []) (by simp [results, Tryz.results50, go_sem]) rfl ⟨rfl, (Bl.refl _).alloc _⟩
  by_cases e1 : t = 1
  · subst e1
    go_enter Tryz.func50, Tryz.ntmps50
    go_wp2
    exact bodyPost_ret (v := V 1 1 []) (by simp [results, Tryz.results50, go_sem]) rfl ⟨rfl, (Bl.refl _).alloc _⟩
  have b0 : (t == 0) = false := by simpa using e0
  have b1 : (t == 1) = false := by simpa using e1
  have e : ofK t = 0 := by simp [ofK, e0, e1]
  have e' : ofN t = 0 := by simp [ofN, e0, e1]
  rw [e, e']
  clear e e'
  go_enter Tryz.func50, Tryz.ntmps50
  go_wp2
  exact bodyPost_ret (v := V 0 0 []) (by simp [results, Tryz.results50, go_sem]) rfl ⟨rfl, (Bl.refl _).alloc _⟩

set_option maxHeartbeats 1000000 in
theorem rCheck_any (k n : Int) (l : List UInt8) (hk0 : -9223372036854775808 ≤ k) (hk1 : k ≤ 9223372036854775807) (w : World) : Calls Tryz.prog 54 #[V k n l] w fun e w' => e = .returned (.int .i64 (chk k n l)) ∧ Bl w w' := by
  go_enter Tryz.func54, Tryz.ntmps54
  go_wp2
  all_goals
    go_ret
    refine ⟨ret_int ?_, (Bl.refl _).alloc _⟩
    clear hk0 hk1
    first
      | (unfold chk; rw [if_pos (by omega)])
      | (unfold chk; rw [if_neg (by first | omega | simp), if_pos (by first | omega | (simp; done) | (simp_all; done) | (simp_all; omega))])
      | (unfold chk; rw [if_neg (by first | omega | simp), if_neg (by first | omega | (simp; done) | (simp_all; done) | (simp_all; omega))])

end Go.Proofs.YtdhaddldmooniaaGreatDoor
