/- What value.must, value.right and value.Check do. What value.caught and value.Check do. cmp.Compare, cmp.Or and value.Order. The small functions: Not, Of, the reference's And, Or, Not, Of, number, num, text. Of, Known, Is, and the reference's Check, Order, Known, Of, Is. Known, Is, and the reference's Known, Is, TypeName. -/
import Derived.Test.YtepkfkfedmbmnaaGreatDoorProg
import Derived.Test.YtepkfkfedmbmnaaGreatDoorM0
import Derived.WalkKit
import Derived.WalkSpells
import Derived.WalkLawsBesides
import Derived.Defers
import Derived.Recover
import Derived.Lib.Hide
import Derived.StillTailTactics
namespace Go.Proofs.YtepkfkfedmbmnaaGreatDoor
open Go.RowKit
set_option maxRecDepth 100000

/-- A text as a value. -/
abbrev S (l : List UInt8) : Value := .string ⟨l.toArray⟩
/-- A loupe value. -/
abbrev V (k n : Int) (l : List UInt8) : Value := .agg #[.int .i64 k, .int .i64 n, S l]

theorem must_yes (n : Int) (w : World) :
    Calls Tryz.prog 125 #[.bool true, .int .i64 n] w fun e w' => e = .returned (.tuple #[]) ∧ w = w' := by
  go_enter Tryz.func125, Tryz.ntmps125
  go_wp2
  go_end0
  exact ⟨rfl, rfl⟩

theorem must_no (n : Int) (w : World) :
    Calls Tryz.prog 125 #[.bool false, .int .i64 n] w fun e w' => e = .panicked [{ v := .iface 31 (.int .i64 n), recovered := false }] ∧ w = w' := by
  go_enter Tryz.func125, Tryz.ntmps125
  go_wp2
  exact ⟨rfl, rfl, rfl⟩

def panics (n : Int) : Ending := .panicked [{ v := .iface 31 (.int .i64 n), recovered := false }]

theorem must_is (b : Bool) (n : Int) (w : World) (h : b = true) :
    Calls Tryz.prog 125 #[.bool b, .int .i64 n] w fun e w' => e = .returned (.tuple #[]) ∧ w = w' := by subst h; exact must_yes n w
theorem must_not (b : Bool) (n : Int) (w : World) (h : b = false) :
    Calls Tryz.prog 125 #[.bool b, .int .i64 n] w fun e w' => e = panics n ∧ w = w' := by subst h; exact must_no n w

/-- Which values may be: 0: it may; 2, 3: the errors. -/
def chk (k n : Int) (l : List UInt8) : Int :=
  if 1000 < l.length then 3
  else if (k = 0 ∧ n = 0 ∧ l = []) ∨ (k = 1 ∧ (n = 0 ∨ n = 1) ∧ l = []) ∨ (k = 2 ∧ l = []) ∨ (k = 3 ∧ n = 0) ∨ (k = 4 ∧ n = 0) then 0 else 2
def endOf (c : Int) : Ending := if c = 0 then .returned (.tuple #[]) else panics c
def RightPost (c : Int) (w : World) (e : Ending) (w' : World) : Prop := e = endOf c ∧ Below w.heap.size w w'

theorem chk_neg {k : Int} (n : Int) (l : List UInt8) (hs : ¬ 1000 < l.length) (kk : k < 0) : chk k n l = 2 := by
  unfold chk; rw [if_neg hs, if_neg (by omega)]
theorem chk_big {k : Int} (n : Int) (l : List UInt8) (hs : ¬ 1000 < l.length) (kk : 4 < k) : chk k n l = 2 := by
  unfold chk; rw [if_neg hs, if_neg (by omega)]

theorem endOf_ok {c : Int} (h : c = 0) : Ending.returned (.tuple #[]) = endOf c := by subst h; rfl
theorem endOf_no {c : Int} (h : c = 2) : Ending.panicked [{ v := .iface 31 (.int .i64 2), recovered := false }] = endOf c := by subst h; rfl

set_option maxHeartbeats 400000 in
theorem right_long (k n : Int) (l : List UInt8) (w : World) (hs : 1000 < l.length) :
    Calls Tryz.prog 109 #[V k n l] w (RightPost (chk k n l) w) := by
  go_enter Tryz.func109, Tryz.ntmps109
  go_wp2_with fail
  refine (must_not _ _ _ (by simp; omega)).mono ?_
  rintro e w' ⟨rfl, rfl⟩
  exact ⟨rfl, by simp [chk, hs, endOf]; rfl, ((Below.refl _ _).alloc (Nat.le_refl _) _)⟩

set_option maxHeartbeats 400000 in
theorem right_00 (l : List UInt8) (w : World) (hs : ¬ 1000 < l.length) :
    Calls Tryz.prog 109 #[V 0 0 l] w (RightPost (chk 0 0 l) w) := by
  go_enter Tryz.func109, Tryz.ntmps109
  go_wp2_with fail
  refine (must_is _ _ _ (by simp; omega)).mono ?_
  rintro e w' ⟨rfl, rfl⟩
  go_wp2_with (first | (go_at_call 125; (with_reducible refine (must_yes _ _).mono ?_); rintro e w' ⟨rfl, rfl⟩) | (go_at_call 125; (with_reducible refine (must_no _ _).mono ?_); rintro e w' ⟨rfl, rfl⟩))
  all_goals first
    | (go_end0; exact ⟨endOf_ok (by simp [chk, *]), ((Below.refl _ _).alloc (Nat.le_refl _) _).alloc (by simp) _⟩)
    | exact ⟨rfl, endOf_no (by simp [chk, *]), ((Below.refl _ _).alloc (Nat.le_refl _) _).alloc (by simp) _⟩

set_option maxHeartbeats 400000 in
theorem right_0n (n : Int) (l : List UInt8) (w : World) (hs : ¬ 1000 < l.length) (n0 : ¬ 0 = n) :
    Calls Tryz.prog 109 #[V 0 n l] w (RightPost (chk 0 n l) w) := by
  go_enter Tryz.func109, Tryz.ntmps109
  go_wp2_with fail
  refine (must_is _ _ _ (by simp; omega)).mono ?_
  rintro e w' ⟨rfl, rfl⟩
  go_wp2_with (first | (go_at_call 125; (with_reducible refine (must_yes _ _).mono ?_); rintro e w' ⟨rfl, rfl⟩) | (go_at_call 125; (with_reducible refine (must_no _ _).mono ?_); rintro e w' ⟨rfl, rfl⟩))
  all_goals first
    | (go_end0; exact ⟨endOf_ok (by simp [chk, hs, Ne.symm n0]), ((Below.refl _ _).alloc (Nat.le_refl _) _).alloc (by simp) _⟩)
    | exact ⟨rfl, endOf_no (by simp [chk, hs, Ne.symm n0]), ((Below.refl _ _).alloc (Nat.le_refl _) _).alloc (by simp) _⟩

set_option maxHeartbeats 400000 in
theorem right_1 (n : Int) (l : List UInt8) (w : World) (hs : ¬ 1000 < l.length) :
    Calls Tryz.prog 109 #[V 1 n l] w (RightPost (chk 1 n l) w) := by
  go_enter Tryz.func109, Tryz.ntmps109
  go_wp2_with fail
  refine (must_is _ _ _ (by simp; omega)).mono ?_
  rintro e w' ⟨rfl, rfl⟩
  go_wp2_with (first | (go_at_call 125; (with_reducible refine (must_yes _ _).mono ?_); rintro e w' ⟨rfl, rfl⟩) | (go_at_call 125; (with_reducible refine (must_no _ _).mono ?_); rintro e w' ⟨rfl, rfl⟩))
  all_goals first
    | (go_end0; exact ⟨endOf_ok (by simp [chk, ← and_one_self, *]), ((Below.refl _ _).alloc (Nat.le_refl _) _).alloc (by simp) _⟩)
    | exact ⟨rfl, endOf_no (by simp [chk, ← and_one_self, *]), ((Below.refl _ _).alloc (Nat.le_refl _) _).alloc (by simp) _⟩

set_option maxHeartbeats 400000 in
theorem right_2 (n : Int) (l : List UInt8) (w : World) (hs : ¬ 1000 < l.length) :
    Calls Tryz.prog 109 #[V 2 n l] w (RightPost (chk 2 n l) w) := by
  go_enter Tryz.func109, Tryz.ntmps109
  go_wp2_with fail
  refine (must_is _ _ _ (by simp; omega)).mono ?_
  rintro e w' ⟨rfl, rfl⟩
  go_wp2_with (first | (go_at_call 125; (with_reducible refine (must_yes _ _).mono ?_); rintro e w' ⟨rfl, rfl⟩) | (go_at_call 125; (with_reducible refine (must_no _ _).mono ?_); rintro e w' ⟨rfl, rfl⟩))
  all_goals first
    | (go_end0; exact ⟨endOf_ok (by simp [chk, *]), ((Below.refl _ _).alloc (Nat.le_refl _) _).alloc (by simp) _⟩)
    | exact ⟨rfl, endOf_no (by simp [chk, *]), ((Below.refl _ _).alloc (Nat.le_refl _) _).alloc (by simp) _⟩

set_option maxHeartbeats 400000 in
theorem right_30 (l : List UInt8) (w : World) (hs : ¬ 1000 < l.length) :
    Calls Tryz.prog 109 #[V 3 0 l] w (RightPost (chk 3 0 l) w) := by
  go_enter Tryz.func109, Tryz.ntmps109
  go_wp2_with fail
  refine (must_is _ _ _ (by simp; omega)).mono ?_
  rintro e w' ⟨rfl, rfl⟩
  go_wp2_with (first | (go_at_call 125; (with_reducible refine (must_yes _ _).mono ?_); rintro e w' ⟨rfl, rfl⟩) | (go_at_call 125; (with_reducible refine (must_no _ _).mono ?_); rintro e w' ⟨rfl, rfl⟩))
  all_goals first
    | (go_end0; exact ⟨endOf_ok (by simp [chk, *]), ((Below.refl _ _).alloc (Nat.le_refl _) _).alloc (by simp) _⟩)
    | exact ⟨rfl, endOf_no (by simp [chk, *]), ((Below.refl _ _).alloc (Nat.le_refl _) _).alloc (by simp) _⟩

set_option maxHeartbeats 400000 in
theorem right_3n (n : Int) (l : List UInt8) (w : World) (hs : ¬ 1000 < l.length) (n0 : ¬ 0 = n) :
    Calls Tryz.prog 109 #[V 3 n l] w (RightPost (chk 3 n l) w) := by
  go_enter Tryz.func109, Tryz.ntmps109
  go_wp2_with fail
  refine (must_is _ _ _ (by simp; omega)).mono ?_
  rintro e w' ⟨rfl, rfl⟩
  go_wp2_with (first | (go_at_call 125; (with_reducible refine (must_yes _ _).mono ?_); rintro e w' ⟨rfl, rfl⟩) | (go_at_call 125; (with_reducible refine (must_no _ _).mono ?_); rintro e w' ⟨rfl, rfl⟩))
  all_goals first
    | (go_end0; exact ⟨endOf_ok (by simp [chk, hs, Ne.symm n0]), ((Below.refl _ _).alloc (Nat.le_refl _) _).alloc (by simp) _⟩)
    | exact ⟨rfl, endOf_no (by simp [chk, hs, Ne.symm n0]), ((Below.refl _ _).alloc (Nat.le_refl _) _).alloc (by simp) _⟩

set_option maxHeartbeats 400000 in
theorem right_40 (l : List UInt8) (w : World) (hs : ¬ 1000 < l.length) :
    Calls Tryz.prog 109 #[V 4 0 l] w (RightPost (chk 4 0 l) w) := by
  go_enter Tryz.func109, Tryz.ntmps109
  go_wp2_with fail
  refine (must_is _ _ _ (by simp; omega)).mono ?_
  rintro e w' ⟨rfl, rfl⟩
  go_wp2_with (first | (go_at_call 125; (with_reducible refine (must_yes _ _).mono ?_); rintro e w' ⟨rfl, rfl⟩) | (go_at_call 125; (with_reducible refine (must_no _ _).mono ?_); rintro e w' ⟨rfl, rfl⟩))
  all_goals first
    | (go_end0; exact ⟨endOf_ok (by simp [chk, *]), ((Below.refl _ _).alloc (Nat.le_refl _) _).alloc (by simp) _⟩)
    | exact ⟨rfl, endOf_no (by simp [chk, *]), ((Below.refl _ _).alloc (Nat.le_refl _) _).alloc (by simp) _⟩

set_option maxHeartbeats 400000 in
theorem right_4n (n : Int) (l : List UInt8) (w : World) (hs : ¬ 1000 < l.length) (n0 : ¬ 0 = n) :
    Calls Tryz.prog 109 #[V 4 n l] w (RightPost (chk 4 n l) w) := by
  go_enter Tryz.func109, Tryz.ntmps109
  go_wp2_with fail
  refine (must_is _ _ _ (by simp; omega)).mono ?_
  rintro e w' ⟨rfl, rfl⟩
  go_wp2_with (first | (go_at_call 125; (with_reducible refine (must_yes _ _).mono ?_); rintro e w' ⟨rfl, rfl⟩) | (go_at_call 125; (with_reducible refine (must_no _ _).mono ?_); rintro e w' ⟨rfl, rfl⟩))
  all_goals first
    | (go_end0; exact ⟨endOf_ok (by simp [chk, hs, Ne.symm n0]), ((Below.refl _ _).alloc (Nat.le_refl _) _).alloc (by simp) _⟩)
    | exact ⟨rfl, endOf_no (by simp [chk, hs, Ne.symm n0]), ((Below.refl _ _).alloc (Nat.le_refl _) _).alloc (by simp) _⟩

set_option maxHeartbeats 400000 in
theorem right_neg0 (k : Int) (l : List UInt8) (w : World) (hs : ¬ 1000 < l.length) (kk : k < 0) (k1 : (k == 1) = false) (k2 : (k == 2) = false) (k3 : (k == 3) = false) (k4 : (k == 4) = false) :
    Calls Tryz.prog 109 #[V k 0 l] w (RightPost (chk k 0 l) w) := by
  go_enter Tryz.func109, Tryz.ntmps109
  go_wp2_with fail
  refine (must_is _ _ _ (by simp; omega)).mono ?_
  rintro e w' ⟨rfl, rfl⟩
  go_wp2_with (first | (go_at_call 125; (with_reducible refine (must_yes _ _).mono ?_); rintro e w' ⟨rfl, rfl⟩) | (go_at_call 125; (with_reducible refine (must_no _ _).mono ?_); rintro e w' ⟨rfl, rfl⟩))
  all_goals first
    | (go_end0; exact ⟨endOf_ok (by exact chk_neg _ _ (by first | exact hs | simp) kk), ((Below.refl _ _).alloc (Nat.le_refl _) _).alloc (by simp) _⟩)
    | exact ⟨rfl, endOf_no (by exact chk_neg _ _ (by first | exact hs | simp) kk), ((Below.refl _ _).alloc (Nat.le_refl _) _).alloc (by simp) _⟩

set_option maxHeartbeats 400000 in
theorem right_negn (k n : Int) (l : List UInt8) (w : World) (hs : ¬ 1000 < l.length) (kk : k < 0) (k1 : (k == 1) = false) (k2 : (k == 2) = false) (k3 : (k == 3) = false) (k4 : (k == 4) = false) (n0 : ¬ 0 = n) :
    Calls Tryz.prog 109 #[V k n l] w (RightPost (chk k n l) w) := by
  go_enter Tryz.func109, Tryz.ntmps109
  go_wp2_with fail
  refine (must_is _ _ _ (by simp; omega)).mono ?_
  rintro e w' ⟨rfl, rfl⟩
  go_wp2_with (first | (go_at_call 125; (with_reducible refine (must_yes _ _).mono ?_); rintro e w' ⟨rfl, rfl⟩) | (go_at_call 125; (with_reducible refine (must_no _ _).mono ?_); rintro e w' ⟨rfl, rfl⟩))
  all_goals first
    | (go_end0; exact ⟨endOf_ok (by exact chk_neg _ _ (by first | exact hs | simp) kk), ((Below.refl _ _).alloc (Nat.le_refl _) _).alloc (by simp) _⟩)
    | exact ⟨rfl, endOf_no (by exact chk_neg _ _ (by first | exact hs | simp) kk), ((Below.refl _ _).alloc (Nat.le_refl _) _).alloc (by simp) _⟩

set_option maxHeartbeats 400000 in
theorem right_big0 (k : Int) (l : List UInt8) (w : World) (hs : ¬ 1000 < l.length) (kk : 4 < k) (_kz : 0 ≤ k) (_kd : decide (k ≤ 4) = false) (k1 : (k == 1) = false) (k2 : (k == 2) = false) (k3 : (k == 3) = false) (k4 : (k == 4) = false) :
    Calls Tryz.prog 109 #[V k 0 l] w (RightPost (chk k 0 l) w) := by
  go_enter Tryz.func109, Tryz.ntmps109
  go_wp2_with fail
  refine (must_is _ _ _ (by simp; omega)).mono ?_
  rintro e w' ⟨rfl, rfl⟩
  go_wp2_with (first | (go_at_call 125; (with_reducible refine (must_yes _ _).mono ?_); rintro e w' ⟨rfl, rfl⟩) | (go_at_call 125; (with_reducible refine (must_no _ _).mono ?_); rintro e w' ⟨rfl, rfl⟩))
  all_goals first
    | (go_end0; exact ⟨endOf_ok (by exact chk_big _ _ (by first | exact hs | simp) kk), ((Below.refl _ _).alloc (Nat.le_refl _) _).alloc (by simp) _⟩)
    | exact ⟨rfl, endOf_no (by exact chk_big _ _ (by first | exact hs | simp) kk), ((Below.refl _ _).alloc (Nat.le_refl _) _).alloc (by simp) _⟩

set_option maxHeartbeats 400000 in
theorem right_bign (k n : Int) (l : List UInt8) (w : World) (hs : ¬ 1000 < l.length) (kk : 4 < k) (_kz : 0 ≤ k) (_kd : decide (k ≤ 4) = false) (k1 : (k == 1) = false) (k2 : (k == 2) = false) (k3 : (k == 3) = false) (k4 : (k == 4) = false) (n0 : ¬ 0 = n) :
    Calls Tryz.prog 109 #[V k n l] w (RightPost (chk k n l) w) := by
  go_enter Tryz.func109, Tryz.ntmps109
  go_wp2_with fail
  refine (must_is _ _ _ (by simp; omega)).mono ?_
  rintro e w' ⟨rfl, rfl⟩
  go_wp2_with (first | (go_at_call 125; (with_reducible refine (must_yes _ _).mono ?_); rintro e w' ⟨rfl, rfl⟩) | (go_at_call 125; (with_reducible refine (must_no _ _).mono ?_); rintro e w' ⟨rfl, rfl⟩))
  all_goals first
    | (go_end0; exact ⟨endOf_ok (by exact chk_big _ _ (by first | exact hs | simp) kk), ((Below.refl _ _).alloc (Nat.le_refl _) _).alloc (by simp) _⟩)
    | exact ⟨rfl, endOf_no (by exact chk_big _ _ (by first | exact hs | simp) kk), ((Below.refl _ _).alloc (Nat.le_refl _) _).alloc (by simp) _⟩


/-- value.right at every value. -/
theorem right_any (k n : Int) (l : List UInt8) (w : World) : Calls Tryz.prog 109 #[V k n l] w (RightPost (chk k n l) w) := by
  by_cases hs : 1000 < l.length
  · exact right_long k n l w hs
  by_cases n0 : n = 0
  · subst n0
    by_cases k0 : k = 0
    · subst k0; exact right_00 l w hs
    by_cases k1 : k = 1
    · subst k1; exact right_1 0 l w hs
    by_cases k2 : k = 2
    · subst k2; exact right_2 0 l w hs
    by_cases k3 : k = 3
    · subst k3; exact right_30 l w hs
    by_cases k4 : k = 4
    · subst k4; exact right_40 l w hs
    rcases Int.lt_or_le k 0 with kk | kk
    · exact right_neg0 k l w hs kk (by simpa using k1) (by simpa using k2) (by simpa using k3) (by simpa using k4)
    · exact right_big0 k l w hs (by omega) kk (by simp; omega) (by simpa using k1) (by simpa using k2) (by simpa using k3) (by simpa using k4)
  · have n1 : ¬ 0 = n := fun h => n0 h.symm
    by_cases k0 : k = 0
    · subst k0; exact right_0n n l w hs n1
    by_cases k1 : k = 1
    · subst k1; exact right_1 n l w hs
    by_cases k2 : k = 2
    · subst k2; exact right_2 n l w hs
    by_cases k3 : k = 3
    · subst k3; exact right_3n n l w hs n1
    by_cases k4 : k = 4
    · subst k4; exact right_4n n l w hs n1
    rcases Int.lt_or_le k 0 with kk | kk
    · exact right_negn k n l w hs kk (by simpa using k1) (by simpa using k2) (by simpa using k3) (by simpa using k4) n1
    · exact right_bign k n l w hs (by omega) kk (by simp; omega) (by simpa using k1) (by simpa using k2) (by simpa using k3) (by simpa using k4) n1

end Go.Proofs.YtepkfkfedmbmnaaGreatDoor

namespace Go.Proofs.YtepkfkfedmbmnaaGreatDoor
open Go.RowKit
set_option maxRecDepth 100000

set_option maxHeartbeats 400000 in
/-- caught, of a frame that returns: nothing. -/
theorem caught_idle (p : Addr) (g : Value) (w : World) :
    CallsD Tryz.prog 107 #[.pointer (some p), g] .returning w fun e u' w' => e = .returned (.tuple #[]) ∧ u' = .returning ∧ w = w' := by
  refine callsD_of_wpS Tryz.func107 rfl fun c₀ cs hu => ?_
  apply wpS_seq
  apply wpS_region
  simp [wpOpsS, go_sem, recoverD, hu, Tryz.ntmps107, Exit.thenS]
  refine wpS_of_wp ?_
  go_wp2
  cases c₀
  simp_all [bodyPostS, results, Tryz.results107]

set_option maxHeartbeats 400000 in
/-- caught, of a frame that panics with an error: it is laid, and clear is called. -/
theorem caught_panic (p : Addr) (x n : Int) (g : FuncId) (first cap args : Array Value) (ha : first ++ cap = args) (w : World) (R : World → Prop) (hc : w.cell? p = some (.int .i64 x)) (hz : w.frozen? p = false)
    (hg : ∀ (args : Array Value) (w : World), (callFunc g args).run Tryz.prog w = .ok (.enter g args) w)
    (hclear : Calls Tryz.prog g args (w.setCell p (.int .i64 n)) fun e w' => e = .returned (.tuple #[]) ∧ R w') :
    CallsD Tryz.prog 107 #[.pointer (some p), .func (.func g) first cap] (.panicking [{ v := .iface 31 (.int .i64 n), recovered := false }]) w fun e u' w' =>
      e = .returned (.tuple #[]) ∧ u' = .panicking [{ v := .iface 31 (.int .i64 n), recovered := true }] ∧ R w' := by
  subst ha
  refine callsD_of_wpS Tryz.func107 rfl fun c₀ cs hu => ?_
  apply wpS_seq
  apply wpS_region
  simp [wpOpsS, go_sem, recoverD, hu, Tryz.ntmps107, Exit.thenS]
  refine wpS_of_wp ?_
  have H := Lib.hid hclear
  clear hclear
  have hta : ∀ w, (Instr.typeAssert (.iface 31 (.int .i64 n)) 20 31 false).run Tryz.prog w = .ok (.int .i64 n) w := fun _ => by kernel_rfl
  rw [show ∀ a b x : Value, #[a, b] ++ (((Array.replicate 12 undef).setIfInBounds 3 x).setIfInBounds 2 x) = #[a, b, undef, undef, x, x, undef, undef, undef, undef, undef, undef, undef, undef] from fun _ _ _ => rfl]
  go_wp2_with fail
  refine H.out.mono ?_
  rintro e w' ⟨rfl, hR⟩
  go_wp2_with fail
  cases c₀
  simp_all [bodyPostS, results, Tryz.results107]

theorem check1 (w : World) : Calls Tryz.prog 108 #[] w fun e w' => e = .returned (.tuple #[]) ∧ w = w' := by
  go_enter Tryz.func108, Tryz.ntmps108
  go_wp2
  go_end0
  exact ⟨rfl, rfl⟩

theorem enters_Check1 (args : Array Value) (w : World) : (callFunc 108 args).run Tryz.prog w = .ok (.enter 108 args) w := by
  simp [go_sem]

theorem right_ok {k n : Int} {l : List UInt8} (w : World) (h : chk k n l = 0) : Calls Tryz.prog 109 #[V k n l] w fun e w' => e = .returned (.tuple #[]) ∧ Below w.heap.size w w' :=
  (right_any k n l w).mono fun e w' ⟨he, hb⟩ => ⟨by rw [he, h]; rfl, hb⟩
theorem right_no {k n : Int} {l : List UInt8} (w : World) (h : ¬ chk k n l = 0) : Calls Tryz.prog 109 #[V k n l] w fun e w' => e = .panicked [{ v := .iface 31 (.int .i64 (chk k n l)), recovered := false }] ∧ Below w.heap.size w w' :=
  (right_any k n l w).mono fun e w' ⟨he, hb⟩ => ⟨by rw [he]; simp [endOf, h, panics], hb⟩

set_option maxHeartbeats 400000 in
theorem Check_ok (k n : Int) (l : List UInt8) (w : World) (h : chk k n l = 0) : Calls Tryz.prog 72 #[V k n l] w fun e w' => e = .returned (.int .i64 0) ∧ Below w.heap.size w w' := by
  have H := Lib.hid h
  clear h
  go_enter_defers Tryz.func72, Tryz.ntmps72
  go_wp2_with fail
  refine (right_ok _ H.out).mono ?_
  rintro e w' ⟨rfl, hb⟩
  have hc := hb.cell (p := ⟨w.heap.size + 1, 0, none⟩) (by simp)
  have hz := hb.frozen (p := ⟨w.heap.size + 1, 0, none⟩) (by simp)
  simp [go_sem] at hc hz
  go_wp2_with fail
  refine leaves_cons (f := 107) (args := #[.pointer (some ⟨w.heap.size + 1, 0, none⟩), .func (.func 108) #[] #[]]) (by simp) (by simp [go_sem]) ?_
  refine (caught_idle _ _ _).mono ?_
  rintro e u' w'' ⟨rfl, rfl, rfl⟩
  refine ⟨.int .i64 0, ?_, rfl, ((((Below.refl _ _).alloc (Nat.le_refl _) _).alloc (by simp) _).trans (hb.mono (by simp; omega))).setCell (by simp) _⟩
  simp [results, Tryz.results72, go_sem, hc]

set_option maxHeartbeats 400000 in
theorem Check_no (k n : Int) (l : List UInt8) (w : World) (h : ¬ chk k n l = 0) : Calls Tryz.prog 72 #[V k n l] w fun e w' => e = .returned (.int .i64 (chk k n l)) ∧ Below w.heap.size w w' := by
  have H := Lib.hid h
  clear h
  go_enter_defers Tryz.func72, Tryz.ntmps72
  go_wp2_with fail
  refine (right_no _ H.out).mono ?_
  rintro e w' ⟨rfl, hb⟩
  have hc := hb.cell (p := ⟨w.heap.size + 1, 0, none⟩) (by simp)
  have hz := hb.frozen (p := ⟨w.heap.size + 1, 0, none⟩) (by simp)
  simp [go_sem] at hc hz
  go_wp2_with fail
  refine leaves_cons (f := 107) (args := #[.pointer (some ⟨w.heap.size + 1, 0, none⟩), .func (.func 108) #[] #[]]) (by simp) (by simp [go_sem]) ?_
  have h1 := (check1 (w'.setCell ⟨w.heap.size + 1, 0, none⟩ (.int .i64 (chk k n l)))).mono (R' := fun e w1 => e = .returned (.tuple #[]) ∧ w1 = w'.setCell ⟨w.heap.size + 1, 0, none⟩ (.int .i64 (chk k n l))) fun e w1 ⟨he, hw⟩ => ⟨he, hw.symm⟩
  have h3 := caught_panic ⟨w.heap.size + 1, 0, none⟩ 0 (chk k n l) 108 #[] #[] #[] (by simp) w' (fun w1 => w1 = w'.setCell ⟨w.heap.size + 1, 0, none⟩ (.int .i64 (chk k n l))) hc hz enters_Check1 h1
  refine h3.mono ?_
  rintro e u' w'' ⟨rfl, rfl, rfl⟩
  refine ⟨.int .i64 (chk k n l), ?_, rfl, ((((Below.refl _ _).alloc (Nat.le_refl _) _).alloc (by simp) _).trans (hb.mono (by simp; omega))).setCell (by simp) _⟩
  simp [results, Tryz.results72, go_sem, hc]

theorem Check_any (k n : Int) (l : List UInt8) (w : World) : Calls Tryz.prog 72 #[V k n l] w fun e w' => e = .returned (.int .i64 (chk k n l)) ∧ Below w.heap.size w w' := by
  by_cases h : chk k n l = 0
  · have := Check_ok k n l w h
    rw [h]; exact this
  · exact Check_no k n l w h

end Go.Proofs.YtepkfkfedmbmnaaGreatDoor

namespace Go.Proofs.YtepkfkfedmbmnaaGreatDoor
open Go.RowKit
set_option maxRecDepth 100000

def cmpI (a b : Int) : Int := if a < b then -1 else if b < a then 1 else 0
def cmpS (a b : List UInt8) : Int := if Op.bytesLess a b then -1 else if a = b then 0 else 1
def first3 (x y z : Int) : Int := if x ≠ 0 then x else if y ≠ 0 then y else z
def cmpV (k n : Int) (l : List UInt8) (k' n' : Int) (l' : List UInt8) : Int := first3 (cmpI k k') (cmpI n n') (cmpS l l')

end Go.Proofs.YtepkfkfedmbmnaaGreatDoor

namespace Go.Proofs.YtepkfkfedmbmnaaGreatDoor
open Go.RowKit
set_option maxRecDepth 100000

def not2 (t : Int) : Int := if t = 0 then 1 else if t = 1 then 0 else 2
def and2 (a b : Int) : Int := if a = 0 ∨ b = 0 then 0 else if a = 1 ∧ b = 1 then 1 else 2
def or2 (a b : Int) : Int := not2 (and2 (not2 a) (not2 b))
/-- A truth as a value: its kind and its number. -/
def ofK (t : Int) : Int := if t = 0 ∨ t = 1 then 1 else 0
def ofN (t : Int) : Int := if t = 0 ∨ t = 1 then t else 0

end Go.Proofs.YtepkfkfedmbmnaaGreatDoor

namespace Go.Proofs.YtepkfkfedmbmnaaGreatDoor
open Go.RowKit
set_option maxRecDepth 100000

def knownR (k n : Int) (l : List UInt8) : Int := if chk k n l ≠ 0 then -1 else if k = 0 then 2 else if k = 1 then n else -1
def isT (k n : Int) (l : List UInt8) (t : Int) : Bool := decide (chk k n l = 0 ∧ 1 ≤ t ∧ t ≤ 4 ∧ (k = t ∨ k = 0))

theorem Of_any (t : Int) (h0 : -9223372036854775808 ≤ t) (h1 : t ≤ 9223372036854775807) (w : World) : Calls Tryz.prog 161 #[.int .i64 t] w fun e w' => e = .returned (V (ofK t) (ofN t) []) ∧ Bl w w' := by
  by_cases e0 : t = 0
  · subst e0
    go_enter Tryz.func161, Tryz.ntmps161
    go_wp2
    exact bodyPost_ret (v := V 1 0 []) (by simp [results, Tryz.results161, go_sem]) rfl ⟨rfl, (Bl.refl _).alloc _⟩
  by_cases e1 : t = 1
  · subst e1
    go_enter Tryz.func161, Tryz.ntmps161
    go_wp2
    exact bodyPost_ret (v := V 1 1 []) (by simp [results, Tryz.results161, go_sem]) rfl ⟨rfl, (Bl.refl _).alloc _⟩
  have b0 : (t != 0) = true := by simpa using e0
  have b1 : (t != 1) = true := by simpa using e1
  have e : ofK t = 0 := by simp [ofK, e0, e1]
  have e' : ofN t = 0 := by simp [ofN, e0, e1]
  rw [e, e']
  clear e e'
  go_enter Tryz.func161, Tryz.ntmps161
  go_wp2
  exact bodyPost_ret (v := V 0 0 []) (by simp [results, Tryz.results161, go_sem]) rfl ⟨rfl, (Bl.refl _).alloc _⟩

theorem rOf_any (t : Int) (h0 : -9223372036854775808 ≤ t) (h1 : t ≤ 9223372036854775807) (w : World) : Calls Tryz.prog 83 #[.int .i64 t] w fun e w' => e = .returned (V (ofK t) (ofN t) []) ∧ Bl w w' := by
  by_cases e0 : t = 0
  · subst e0
    go_enter Tryz.func83, Tryz.ntmps83
    go_wp2
    exact bodyPost_ret (v := V 1 0 []) (by simp [results, Tryz.results83, go_sem]) rfl ⟨rfl, (Bl.refl _).alloc _⟩
  by_cases e1 : t = 1
  · subst e1
    go_enter Tryz.func83, Tryz.ntmps83
    go_wp2
    exact bodyPost_ret (v := V 1 1 []) (by simp [results, Tryz.results83, go_sem]) rfl ⟨rfl, (Bl.refl _).alloc _⟩
  have b0 : (t == 0) = false := by simpa using e0
  have b1 : (t == 1) = false := by simpa using e1
  have e : ofK t = 0 := by simp [ofK, e0, e1]
  have e' : ofN t = 0 := by simp [ofN, e0, e1]
  rw [e, e']
  clear e e'
  go_enter Tryz.func83, Tryz.ntmps83
  go_wp2
  exact bodyPost_ret (v := V 0 0 []) (by simp [results, Tryz.results83, go_sem]) rfl ⟨rfl, (Bl.refl _).alloc _⟩

set_option maxHeartbeats 1000000 in
theorem rCheck_any (k n : Int) (l : List UInt8) (hk0 : -9223372036854775808 ≤ k) (hk1 : k ≤ 9223372036854775807) (w : World) : Calls Tryz.prog 45 #[V k n l] w fun e w' => e = .returned (.int .i64 (chk k n l)) ∧ Bl w w' := by
  go_enter Tryz.func45, Tryz.ntmps45
  go_wp2
  all_goals
    go_ret
    refine ⟨ret_int ?_, (Bl.refl _).alloc _⟩
    clear hk0 hk1
    first
      | (unfold chk; rw [if_pos (by omega)])
      | (unfold chk; rw [if_neg (by first | omega | simp), if_pos (by first | omega | (simp; done) | (simp_all; done) | (simp_all; omega))])
      | (unfold chk; rw [if_neg (by first | omega | simp), if_neg (by first | omega | (simp; done) | (simp_all; done) | (simp_all; omega))])

end Go.Proofs.YtepkfkfedmbmnaaGreatDoor

namespace Go.Proofs.YtepkfkfedmbmnaaGreatDoor
open Go.RowKit
set_option maxRecDepth 100000

theorem chk_zero (n : Int) (l : List UInt8) : chk 0 n l = 0 ↔ n = 0 ∧ l = [] := by
  unfold chk
  split
  · rename_i h
    constructor
    · intro h'; cases h'
    · rintro ⟨_, rfl⟩; simp at h
  · split <;> simp_all
theorem chk_one (n : Int) (l : List UInt8) : chk 1 n l = 0 ↔ (n = 0 ∨ n = 1) ∧ l = [] := by
  unfold chk
  split
  · rename_i h
    constructor
    · intro h'; cases h'
    · rintro ⟨_, rfl⟩; simp at h
  · split <;> simp_all

def IntIn (n : Int) : Prop := -9223372036854775808 ≤ n ∧ n ≤ 9223372036854775807

end Go.Proofs.YtepkfkfedmbmnaaGreatDoor

