/- What value.must, value.right and value.Check do. -/
import Derived.Test.YtdhaddldmooniaaGreatDoorProg
import Derived.Test.YtdhaddldmooniaaGreatDoorP0
import Derived.WalkKit
import Derived.WalkSpells
import Derived.WalkLawsBesides
import Derived.Defers
import Derived.Recover
namespace Go.Proofs.YtdhaddldmooniaaGreatDoor
open Go.RowKit
set_option maxRecDepth 100000

/-- A text as a value. -/
abbrev S (l : List UInt8) : Value := .string ⟨l.toArray⟩
/-- A loupe value. -/
abbrev V (k n : Int) (l : List UInt8) : Value := .agg #[.int .i64 k, .int .i64 n, S l]

theorem must_yes (n : Int) (w : World) :
    Calls Tryz.prog 83 #[.bool true, .int .i64 n] w fun e w' => e = .returned (.tuple #[]) ∧ w = w' := by
  go_enter Tryz.func83, Tryz.ntmps83
  go_wp2
  go_end0
  exact ⟨rfl, rfl⟩

theorem must_no (n : Int) (w : World) :
    Calls Tryz.prog 83 #[.bool false, .int .i64 n] w fun e w' => e = .panicked [{ v := .iface 25 (.int .i64 n), recovered := false }] ∧ w = w' := by
  go_enter Tryz.func83, Tryz.ntmps83
  go_wp2
  exact ⟨rfl, rfl, rfl⟩

def panics (n : Int) : Ending := .panicked [{ v := .iface 25 (.int .i64 n), recovered := false }]

theorem must_is (b : Bool) (n : Int) (w : World) (h : b = true) :
    Calls Tryz.prog 83 #[.bool b, .int .i64 n] w fun e w' => e = .returned (.tuple #[]) ∧ w = w' := by subst h; exact must_yes n w
theorem must_not (b : Bool) (n : Int) (w : World) (h : b = false) :
    Calls Tryz.prog 83 #[.bool b, .int .i64 n] w fun e w' => e = panics n ∧ w = w' := by subst h; exact must_no n w

/-- Which values may be: 0: it may; 2, 3: the errors. -/
def chk (k n : Int) (l : List UInt8) : Int :=
  if 1000 < l.length then 3
  else if (k = 0 ∧ n = 0 ∧ l = []) ∨ (k = 1 ∧ (n = 0 ∨ n = 1) ∧ l = []) ∨ (k = 2 ∧ l = []) ∨ (k = 3 ∧ n = 0) ∨ (k = 4 ∧ n = 0) then 0 else 2
def endOf (c : Int) : Ending := if c = 0 then .returned (.tuple #[]) else panics c
def RightPost (c : Int) (w : World) (e : Ending) (w' : World) : Prop := e = endOf c ∧ Below w.heap.size w w'

theorem chk_neg {k : Int} (n : Int) (l : List UInt8) (hs : ¬ 1000 < l.length) (kk : k < 0) : chk k n l = 2 := by
  unfold chk; rw [if_neg hs, if_neg (by omega)]
theorem chk_big {k : Int} (n : Int) (l : List UInt8) (hs : ¬ 1000 < l.length) (kk : 4 < k) : chk k n l = 2 := by
  unfold chk; rw [if_neg hs, if_neg (by omega)]

theorem endOf_ok {c : Int} (h : c = 0) : Ending.returned (.tuple #[]) = endOf c := by subst h; rfl
theorem endOf_no {c : Int} (h : c = 2) : Ending.panicked [{ v := .iface 25 (.int .i64 2), recovered := false }] = endOf c := by subst h; rfl

set_option maxHeartbeats 400000 in
theorem right_long (k n : Int) (l : List UInt8) (w : World) (hs : 1000 < l.length) :
    Calls Tryz.prog 68 #[V k n l] w (RightPost (chk k n l) w) := by
  go_enter Tryz.func68, Tryz.ntmps68
  go_wp2_with fail
  refine (must_not _ _ _ (by simp; omega)).mono ?_
  rintro e w' ⟨rfl, rfl⟩
  exact ⟨rfl, by simp [chk, hs, endOf]; rfl, ((Below.refl _ _).alloc (Nat.le_refl _) _)⟩

set_option maxHeartbeats 400000 in
theorem right_00 (l : List UInt8) (w : World) (hs : ¬ 1000 < l.length) :
    Calls Tryz.prog 68 #[V 0 0 l] w (RightPost (chk 0 0 l) w) := by
  go_enter Tryz.func68, Tryz.ntmps68
  go_wp2_with fail
  refine (must_is _ _ _ (by simp; omega)).mono ?_
  rintro e w' ⟨rfl, rfl⟩
  go_wp2_with (first | (go_at_call 83; (with_reducible refine (must_yes _ _).mono ?_); rintro e w' ⟨rfl, rfl⟩) | (go_at_call 83; (with_reducible refine (must_no _ _).mono ?_); rintro e w' ⟨rfl, rfl⟩))
  all_goals first
    | (go_end0; exact ⟨endOf_ok (by simp [chk, *]), ((Below.refl _ _).alloc (Nat.le_refl _) _).alloc (by simp) _⟩)
    | exact ⟨rfl, endOf_no (by simp [chk, *]), ((Below.refl _ _).alloc (Nat.le_refl _) _).alloc (by simp) _⟩

set_option maxHeartbeats 400000 in
theorem right_0n (n : Int) (l : List UInt8) (w : World) (hs : ¬ 1000 < l.length) (n0 : ¬ 0 = n) :
    Calls Tryz.prog 68 #[V 0 n l] w (RightPost (chk 0 n l) w) := by
  go_enter Tryz.func68, Tryz.ntmps68
  go_wp2_with fail
  refine (must_is _ _ _ (by simp; omega)).mono ?_
  rintro e w' ⟨rfl, rfl⟩
  go_wp2_with (first | (go_at_call 83; (with_reducible refine (must_yes _ _).mono ?_); rintro e w' ⟨rfl, rfl⟩) | (go_at_call 83; (with_reducible refine (must_no _ _).mono ?_); rintro e w' ⟨rfl, rfl⟩))
  all_goals first
    | (go_end0; exact ⟨endOf_ok (by simp [chk, hs, Ne.symm n0]), ((Below.refl _ _).alloc (Nat.le_refl _) _).alloc (by simp) _⟩)
    | exact ⟨rfl, endOf_no (by simp [chk, hs, Ne.symm n0]), ((Below.refl _ _).alloc (Nat.le_refl _) _).alloc (by simp) _⟩

set_option maxHeartbeats 400000 in
theorem right_1 (n : Int) (l : List UInt8) (w : World) (hs : ¬ 1000 < l.length) :
    Calls Tryz.prog 68 #[V 1 n l] w (RightPost (chk 1 n l) w) := by
  go_enter Tryz.func68, Tryz.ntmps68
  go_wp2_with fail
  refine (must_is _ _ _ (by simp; omega)).mono ?_
  rintro e w' ⟨rfl, rfl⟩
  go_wp2_with (first | (go_at_call 83; (with_reducible refine (must_yes _ _).mono ?_); rintro e w' ⟨rfl, rfl⟩) | (go_at_call 83; (with_reducible refine (must_no _ _).mono ?_); rintro e w' ⟨rfl, rfl⟩))
  all_goals first
    | (go_end0; exact ⟨endOf_ok (by simp [chk, ← and_one_self, *]), ((Below.refl _ _).alloc (Nat.le_refl _) _).alloc (by simp) _⟩)
    | exact ⟨rfl, endOf_no (by simp [chk, ← and_one_self, *]), ((Below.refl _ _).alloc (Nat.le_refl _) _).alloc (by simp) _⟩

set_option maxHeartbeats 400000 in
theorem right_2 (n : Int) (l : List UInt8) (w : World) (hs : ¬ 1000 < l.length) :
    Calls Tryz.prog 68 #[V 2 n l] w (RightPost (chk 2 n l) w) := by
  go_enter Tryz.func68, Tryz.ntmps68
  go_wp2_with fail
  refine (must_is _ _ _ (by simp; omega)).mono ?_
  rintro e w' ⟨rfl, rfl⟩
  go_wp2_with (first | (go_at_call 83; (with_reducible refine (must_yes _ _).mono ?_); rintro e w' ⟨rfl, rfl⟩) | (go_at_call 83; (with_reducible refine (must_no _ _).mono ?_); rintro e w' ⟨rfl, rfl⟩))
  all_goals first
    | (go_end0; exact ⟨endOf_ok (by simp [chk, *]), ((Below.refl _ _).alloc (Nat.le_refl _) _).alloc (by simp) _⟩)
    | exact ⟨rfl, endOf_no (by simp [chk, *]), ((Below.refl _ _).alloc (Nat.le_refl _) _).alloc (by simp) _⟩

set_option maxHeartbeats 400000 in
theorem right_30 (l : List UInt8) (w : World) (hs : ¬ 1000 < l.length) :
    Calls Tryz.prog 68 #[V 3 0 l] w (RightPost (chk 3 0 l) w) := by
  go_enter Tryz.func68, Tryz.ntmps68
  go_wp2_with fail
  refine (must_is _ _ _ (by simp; omega)).mono ?_
  rintro e w' ⟨rfl, rfl⟩
  go_wp2_with (first | (go_at_call 83; (with_reducible refine (must_yes _ _).mono ?_); rintro e w' ⟨rfl, rfl⟩) | (go_at_call 83; (with_reducible refine (must_no _ _).mono ?_); rintro e w' ⟨rfl, rfl⟩))
  all_goals first
    | (go_end0; exact ⟨endOf_ok (by simp [chk, *]), ((Below.refl _ _).alloc (Nat.le_refl _) _).alloc (by simp) _⟩)
    | exact ⟨rfl, endOf_no (by simp [chk, *]), ((Below.refl _ _).alloc (Nat.le_refl _) _).alloc (by simp) _⟩

set_option maxHeartbeats 400000 in
theorem right_3n (n : Int) (l : List UInt8) (w : World) (hs : ¬ 1000 < l.length) (n0 : ¬ 0 = n) :
    Calls Tryz.prog 68 #[V 3 n l] w (RightPost (chk 3 n l) w) := by
  go_enter Tryz.func68, Tryz.ntmps68
  go_wp2_with fail
  refine (must_is _ _ _ (by simp; omega)).mono ?_
  rintro e w' ⟨rfl, rfl⟩
  go_wp2_with (first | (go_at_call 83; (with_reducible refine (must_yes _ _).mono ?_); rintro e w' ⟨rfl, rfl⟩) | (go_at_call 83; (with_reducible refine (must_no _ _).mono ?_); rintro e w' ⟨rfl, rfl⟩))
  all_goals first
    | (go_end0; exact ⟨endOf_ok (by simp [chk, hs, Ne.symm n0]), ((Below.refl _ _).alloc (Nat.le_refl _) _).alloc (by simp) _⟩)
    | exact ⟨rfl, endOf_no (by simp [chk, hs, Ne.symm n0]), ((Below.refl _ _).alloc (Nat.le_refl _) _).alloc (by simp) _⟩

set_option maxHeartbeats 400000 in
theorem right_40 (l : List UInt8) (w : World) (hs : ¬ 1000 < l.length) :
    Calls Tryz.prog 68 #[V 4 0 l] w (RightPost (chk 4 0 l) w) := by
  go_enter Tryz.func68, Tryz.ntmps68
  go_wp2_with fail
  refine (must_is _ _ _ (by simp; omega)).mono ?_
  rintro e w' ⟨rfl, rfl⟩
  go_wp2_with (first | (go_at_call 83; (with_reducible refine (must_yes _ _).mono ?_); rintro e w' ⟨rfl, rfl⟩) | (go_at_call 83; (with_reducible refine (must_no _ _).mono ?_); rintro e w' ⟨rfl, rfl⟩))
  all_goals first
    | (go_end0; exact ⟨endOf_ok (by simp [chk, *]), ((Below.refl _ _).alloc (Nat.le_refl _) _).alloc (by simp) _⟩)
    | exact ⟨rfl, endOf_no (by simp [chk, *]), ((Below.refl _ _).alloc (Nat.le_refl _) _).alloc (by simp) _⟩

set_option maxHeartbeats 400000 in
theorem right_4n (n : Int) (l : List UInt8) (w : World) (hs : ¬ 1000 < l.length) (n0 : ¬ 0 = n) :
    Calls Tryz.prog 68 #[V 4 n l] w (RightPost (chk 4 n l) w) := by
  go_enter Tryz.func68, Tryz.ntmps68
  go_wp2_with fail
  refine (must_is _ _ _ (by simp; omega)).mono ?_
  rintro e w' ⟨rfl, rfl⟩
  go_wp2_with (first | (go_at_call 83; (with_reducible refine (must_yes _ _).mono ?_); rintro e w' ⟨rfl, rfl⟩) | (go_at_call 83; (with_reducible refine (must_no _ _).mono ?_); rintro e w' ⟨rfl, rfl⟩))
  all_goals first
    | (go_end0; exact ⟨endOf_ok (by simp [chk, hs, Ne.symm n0]), ((Below.refl _ _).alloc (Nat.le_refl _) _).alloc (by simp) _⟩)
    | exact ⟨rfl, endOf_no (by simp [chk, hs, Ne.symm n0]), ((Below.refl _ _).alloc (Nat.le_refl _) _).alloc (by simp) _⟩

set_option maxHeartbeats 400000 in
theorem right_neg0 (k : Int) (l : List UInt8) (w : World) (hs : ¬ 1000 < l.length) (kk : k < 0) (k1 : (k == 1) = false) (k2 : (k == 2) = false) (k3 : (k == 3) = false) (k4 : (k == 4) = false) :
    Calls Tryz.prog 68 #[V k 0 l] w (RightPost (chk k 0 l) w) := by
  go_enter Tryz.func68, Tryz.ntmps68
  go_wp2_with fail
  refine (must_is _ _ _ (by simp; omega)).mono ?_
  rintro e w' ⟨rfl, rfl⟩
  go_wp2_with (first | (go_at_call 83; (with_reducible refine (must_yes _ _).mono ?_); rintro e w' ⟨rfl, rfl⟩) | (go_at_call 83; (with_reducible refine (must_no _ _).mono ?_); rintro e w' ⟨rfl, rfl⟩))
  all_goals first
    | (go_end0; exact ⟨endOf_ok (by exact chk_neg _ _ (by first | exact hs | simp) kk), ((Below.refl _ _).alloc (Nat.le_refl _) _).alloc (by simp) _⟩)
    | exact ⟨rfl, endOf_no (by exact chk_neg _ _ (by first | exact hs | simp) kk), ((Below.refl _ _).alloc (Nat.le_refl _) _).alloc (by simp) _⟩

set_option maxHeartbeats 400000 in
theorem right_negn (k n : Int) (l : List UInt8) (w : World) (hs : ¬ 1000 < l.length) (kk : k < 0) (k1 : (k == 1) = false) (k2 : (k == 2) = false) (k3 : (k == 3) = false) (k4 : (k == 4) = false) (n0 : ¬ 0 = n) :
    Calls Tryz.prog 68 #[V k n l] w (RightPost (chk k n l) w) := by
  go_enter Tryz.func68, Tryz.ntmps68
  go_wp2_with fail
  refine (must_is _ _ _ (by simp; omega)).mono ?_
  rintro e w' ⟨rfl, rfl⟩
  go_wp2_with (first | (go_at_call 83; (with_reducible refine (must_yes _ _).mono ?_); rintro e w' ⟨rfl, rfl⟩) | (go_at_call 83; (with_reducible refine (must_no _ _).mono ?_); rintro e w' ⟨rfl, rfl⟩))
  all_goals first
    | (go_end0; exact ⟨endOf_ok (by exact chk_neg _ _ (by first | exact hs | simp) kk), ((Below.refl _ _).alloc (Nat.le_refl _) _).alloc (by simp) _⟩)
    | exact ⟨rfl, endOf_no (by exact chk_neg _ _ (by first | exact hs | simp) kk), ((Below.refl _ _).alloc (Nat.le_refl _) _).alloc (by simp) _⟩

set_option maxHeartbeats 400000 in
theorem right_big0 (k : Int) (l : List UInt8) (w : World) (hs : ¬ 1000 < l.length) (kk : 4 < k) (_kz : 0 ≤ k) (_kd : decide (k ≤ 4) = false) (k1 : (k == 1) = false) (k2 : (k == 2) = false) (k3 : (k == 3) = false) (k4 : (k == 4) = false) :
    Calls Tryz.prog 68 #[V k 0 l] w (RightPost (chk k 0 l) w) := by
  go_enter Tryz.func68, Tryz.ntmps68
  go_wp2_with fail
  refine (must_is _ _ _ (by simp; omega)).mono ?_
  rintro e w' ⟨rfl, rfl⟩
  go_wp2_with (first | (go_at_call 83; (with_reducible refine (must_yes _ _).mono ?_); rintro e w' ⟨rfl, rfl⟩) | (go_at_call 83; (with_reducible refine (must_no _ _).mono ?_); rintro e w' ⟨rfl, rfl⟩))
  all_goals first
    | (go_end0; exact ⟨endOf_ok (by exact chk_big _ _ (by first | exact hs | simp) kk), ((Below.refl _ _).alloc (Nat.le_refl _) _).alloc (by simp) _⟩)
    | exact ⟨rfl, endOf_no (by exact chk_big _ _ (by first | exact hs | simp) kk), ((Below.refl _ _).alloc (Nat.le_refl _) _).alloc (by simp) _⟩

set_option maxHeartbeats 400000 in
theorem right_bign (k n : Int) (l : List UInt8) (w : World) (hs : ¬ 1000 < l.length) (kk : 4 < k) (_kz : 0 ≤ k) (_kd : decide (k ≤ 4) = false) (k1 : (k == 1) = false) (k2 : (k == 2) = false) (k3 : (k == 3) = false) (k4 : (k == 4) = false) (n0 : ¬ 0 = n) :
    Calls Tryz.prog 68 #[V k n l] w (RightPost (chk k n l) w) := by
  go_enter Tryz.func68, Tryz.ntmps68
  go_wp2_with fail
  refine (must_is _ _ _ (by simp; omega)).mono ?_
  rintro e w' ⟨rfl, rfl⟩
  go_wp2_with (first | (go_at_call 83; (with_reducible refine (must_yes _ _).mono ?_); rintro e w' ⟨rfl, rfl⟩) | (go_at_call 83; (with_reducible refine (must_no _ _).mono ?_); rintro e w' ⟨rfl, rfl⟩))
  all_goals first
    | (go_end0; exact ⟨endOf_ok (by exact chk_big _ _ (by first | exact hs | simp) kk), ((Below.refl _ _).alloc (Nat.le_refl _) _).alloc (by simp) _⟩)
    | exact ⟨rfl, endOf_no (by exact chk_big _ _ (by first | exact hs | simp) kk), ((Below.refl _ _).alloc (Nat.le_refl _) _).alloc (by simp) _⟩


/-- value.right at every value. -/
theorem right_any (k n : Int) (l : List UInt8) (w : World) : Calls Tryz.prog 68 #[V k n l] w (RightPost (chk k n l) w) := by
  by_cases hs : 1000 < l.length
  · exact right_long k n l w hs
  by_cases n0 : n = 0
  · subst n0
    by_cases k0 : k = 0
    · subst k0; exact right_00 l w hs
    by_cases k1 : k = 1
    · subst k1; exact right_1 0 l w hs
    by_cases k2 : k = 2
    · subst k2; exact right_2 0 l w hs
    by_cases k3 : k = 3
    · subst k3; exact right_30 l w hs
    by_cases k4 : k = 4
    · subst k4; exact right_40 l w hs
    rcases Int.lt_or_le k 0 with kk | kk
    · exact right_neg0 k l w hs kk (by simpa using k1) (by simpa using k2) (by simpa using k3) (by simpa using k4)
    · exact right_big0 k l w hs (by omega) kk (by simp; omega) (by simpa using k1) (by simpa using k2) (by simpa using k3) (by simpa using k4)
  · have n1 : ¬ 0 = n := fun h => n0 h.symm
    by_cases k0 : k = 0
    · subst k0; exact right_0n n l w hs n1
    by_cases k1 : k = 1
    · subst k1; exact right_1 n l w hs
    by_cases k2 : k = 2
    · subst k2; exact right_2 n l w hs
    by_cases k3 : k = 3
    · subst k3; exact right_3n n l w hs n1
    by_cases k4 : k = 4
    · subst k4; exact right_4n n l w hs n1
    rcases Int.lt_or_le k 0 with kk | kk
    · exact right_negn k n l w hs kk (by simpa using k1) (by simpa using k2) (by simpa using k3) (by simpa using k4) n1
    · exact right_bign k n l w hs (by omega) kk (by simp; omega) (by simpa using k1) (by simpa using k2) (by simpa using k3) (by simpa using k4) n1

end Go.Proofs.YtdhaddldmooniaaGreatDoor
