/- Known, Is, and the reference's Known, Is, TypeName. -/
import Derived.Test.YtdhaddldmooniaaGreatDoorV5
namespace Go.Proofs.YtdhaddldmooniaaGreatDoor
open Go.RowKit
set_option maxRecDepth 100000

theorem chk_zero (n : Int) (l : List UInt8) : chk 0 n l = 0 ↔ n = 0 ∧ l = [] := by
  unfold chk
  split
  · rename_i h
    constructor
    · intro h'; cases h'
    · rintro ⟨_, rfl⟩; simp at h
  · split <;> simp_all
theorem chk_one (n : Int) (l : List UInt8) : chk 1 n l = 0 ↔ (n = 0 ∨ n = 1) ∧ l = [] := by
  unfold chk
  split
  · rename_i h
    constructor
    · intro h'; cases h'
    · rintro ⟨_, rfl⟩; simp at h
  · split <;> simp_all

def IntIn (n : Int) : Prop := -9223372036854775808 ≤ n ∧ n ≤ 9223372036854775807

end Go.Proofs.YtdhaddldmooniaaGreatDoor
