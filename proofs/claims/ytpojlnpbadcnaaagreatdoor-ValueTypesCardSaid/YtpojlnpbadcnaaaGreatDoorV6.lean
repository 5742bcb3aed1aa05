/- Known, Is, and the reference's Known, Is, TypeName. -/
import Derived.Test.YtpojlnpbadcnaaaGreatDoorV5
namespace Go.Proofs.YtpojlnpbadcnaaaGreatDoor
open Go.RowKit
set_option maxRecDepth 100000

theorem chk_zero (n : Int) (l : List UInt8) : chk 0 n l = 0 ↔ n = 0 ∧ l = [] := by
  unfold chk
  split
  · rename_i h
    constructor
    · intro h'; cases h'
    · rintro ⟨_, rfl⟩; simp at h
  · split <;> simp_all
theorem chk_one (n : Int) (l : List UInt8) : chk 1 n l = 0 ↔ (n = 0 ∨ n = 1) ∧ l = [] := by
  unfold chk
  split
  · rename_i h
    constructor
    · intro h'; cases h'
    · rintro ⟨_, rfl⟩; simp at h
  · split <;> simp_all

def IntIn (n : Int) : Prop := -9223372036854775808 ≤ n ∧ n ≤ 9223372036854775807

set_option maxHeartbeats 1000000 in
theorem Known_any (k n : Int) (l : List UInt8) (hn0 : -9223372036854775808 ≤ n) (hn1 : n ≤ 9223372036854775807) (w : World) :
    Calls Tryz.prog 28 #[V k n l] w fun e w' => e = .returned (.tuple #[.int .i64 (max 0 (knownR k n l)), .bool (decide (0 ≤ knownR k n l))]) ∧ Bl w w' := by
  go_enter Tryz.func28, Tryz.ntmps28
  go_wp2_with ((go_at_call 19; (with_reducible refine (Check_any _ _ _ _).mono ?_); rintro e w' ⟨rfl, hb⟩; obtain ⟨hcl, hfz⟩ := bcell hb))
  all_goals
    go_ret2
    refine ⟨ret_ib ?_ ?_, ?_⟩
    rotate_left 2
    · first | exact ((Bl.refl _).alloc _).call hb | exact (Bl.refl _).alloc _
    all_goals first | (simp_all [knownR, chk_zero]; done) | (simp_all [knownR, chk_zero]; omega) | (simp_all [knownR, chk_one]; omega) | (unfold knownR; split <;> simp_all)

set_option maxHeartbeats 1000000 in
theorem rKnown_any (k n : Int) (l : List UInt8) (_hn0 : -9223372036854775808 ≤ n) (_hn1 : n ≤ 9223372036854775807) (hk0 : -9223372036854775808 ≤ k) (hk1 : k ≤ 9223372036854775807) (w : World) :
    Calls Tryz.prog 29 #[V k n l] w fun e w' => e = .returned (.int .i64 (knownR k n l)) ∧ Bl w w' := by
  go_enter Tryz.func29, Tryz.ntmps29
  go_wp2_with ((go_at_call 20; (with_reducible refine (rCheck_any _ _ _ hk0 hk1 _).mono ?_); rintro e w' ⟨rfl, hb⟩; obtain ⟨hcl, hfz⟩ := bcell hb))
  all_goals
    go_ret
    refine ⟨ret_int ?_, ?_⟩
    rotate_left 1
    · first | exact ((Bl.refl _).alloc _).call hb | exact (Bl.refl _).alloc _
    simp_all [knownR]

set_option maxHeartbeats 1000000 in
theorem Is_any (k n : Int) (l : List UInt8) (t : Int) (_hk0 : -9223372036854775808 ≤ k) (_hk1 : k ≤ 9223372036854775807) (ht0 : -9223372036854775808 ≤ t) (ht1 : t ≤ 9223372036854775807) (w : World) :
    Calls Tryz.prog 22 #[V k n l, .int .i64 t] w fun e w' => e = .returned (.bool (isT k n l t)) ∧ Bl w w' := by
  go_enter Tryz.func22, Tryz.ntmps22
  go_wp2_with ((go_at_call 19; (with_reducible refine (Check_any _ _ _ _).mono ?_); rintro e w' ⟨rfl, hb⟩; obtain ⟨hcl, hfz⟩ := bcell hb))
  all_goals
    go_ret
    refine ⟨ret_bool ?_, ?_⟩
    rotate_left 1
    · first | exact ((Bl.refl _).alloc _).call hb | exact (Bl.refl _).alloc _
    unfold isT
    first | (simp_all; done) | (simp_all; omega) | (rw [Bool.eq_iff_iff]; simp_all; done) | (rw [Bool.eq_iff_iff]; simp_all; omega)

set_option maxHeartbeats 1000000 in
theorem rIs_any (k n : Int) (l : List UInt8) (t : Int) (hk0 : -9223372036854775808 ≤ k) (hk1 : k ≤ 9223372036854775807) (w : World) :
    Calls Tryz.prog 23 #[V k n l, .int .i64 t] w fun e w' => e = .returned (.bool (isT k n l t)) ∧ Bl w w' := by
  go_enter Tryz.func23, Tryz.ntmps23
  go_wp2_with ((go_at_call 20; (with_reducible refine (rCheck_any _ _ _ hk0 hk1 _).mono ?_); rintro e w' ⟨rfl, hb⟩; obtain ⟨hcl, hfz⟩ := bcell hb))
  all_goals
    go_ret
    refine ⟨ret_bool ?_, ?_⟩
    rotate_left 1
    · first | exact ((Bl.refl _).alloc _).call hb | exact (Bl.refl _).alloc _
    unfold isT
    first | (simp_all; done) | (simp_all; omega) | (rw [Bool.eq_iff_iff]; simp_all; done) | (rw [Bool.eq_iff_iff]; simp_all; omega)

end Go.Proofs.YtpojlnpbadcnaaaGreatDoor
