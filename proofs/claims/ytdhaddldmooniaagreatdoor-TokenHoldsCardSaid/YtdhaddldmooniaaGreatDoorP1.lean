/- Plain facts on texts: what strings.ReplaceAll comes to, a piece at a time; doubled quotes; pairs of quotes. -/
import Derived.Lib.Replace
import Derived.Lib.ReplaceLaws
import Derived.Lib.CountLaws
namespace Go.Proofs.YtdhaddldmooniaaGreatDoor

theorem replaceAll_nil {old new : List UInt8} (ho : old ≠ []) : Lib.replaceAll [] old new = [] := by
  have hi : Lib.index [] old = -1 := by cases old <;> simp_all [Lib.index]
  unfold Lib.replaceAll Lib.replace
  split
  · rfl
  · rw [Lib.replaceNum, if_pos (by simp), Lib.count_miss hi]; rfl

theorem replaceAll_hit {s old new : List UInt8} (ho : old ≠ []) (hn : old ≠ new) (h : old.isPrefixOf s = true) : Lib.replaceAll s old new = new ++ Lib.replaceAll (s.drop old.length) old new := by
  have hi : Lib.index s old = (0 : Nat) := by
    cases s with
    | nil => cases old <;> simp_all
    | cons b l => simp [Lib.index, h]
  have hne : (old == new) = false := by simpa using hn
  unfold Lib.replaceAll Lib.replace
  rw [hne]
  simp only [Lib.replaceNum, Bool.false_eq_true, if_false]
  rw [if_pos (by simp), if_pos (by simp), Lib.count_hit ho hi, Nat.add_comm, Lib.replaceK_hit _ _ _ _ 0 hi]
  simp

theorem replaceAll_miss {b : UInt8} {l old new : List UInt8} (ho : old ≠ []) (hn : old ≠ new) (h : old.isPrefixOf (b :: l) = false) : Lib.replaceAll (b :: l) old new = b :: Lib.replaceAll l old new := by
  have hne : (old == new) = false := by simpa using hn
  unfold Lib.replaceAll Lib.replace
  rw [hne]
  simp only [Lib.replaceNum, Bool.false_eq_true, if_false]
  rw [if_pos (by simp), if_pos (by simp)]
  rcases Lib.index_spec l old with ⟨hi, _⟩ | ⟨i, hi, _⟩
  · have hi' : Lib.index (b :: l) old = -1 := by simp [Lib.index, h, hi]
    rw [Lib.count_miss hi, Lib.count_miss hi']; rfl
  · have hi' : Lib.index (b :: l) old = (i + 1 : Nat) := by
      simp [Lib.index, h, hi]
    rw [Lib.count_hit ho hi, Lib.count_hit ho hi', Nat.add_comm 1, Nat.add_comm 1, Lib.replaceK_hit _ _ _ _ (i + 1) hi', Lib.replaceK_hit _ _ _ _ i hi]
    have e : i + 1 + old.length = (i + old.length) + 1 := by omega
    rw [e]
    simp

/-- Each quote twice. -/
def dbl : List UInt8 → List UInt8
  | [] => []
  | c :: r => if c = 39 then 39 :: 39 :: dbl r else c :: dbl r

theorem replaceAll_dbl (l : List UInt8) : Lib.replaceAll l [39] [39, 39] = dbl l := by
  induction l with
  | nil => exact replaceAll_nil (by simp)
  | cons c r ih =>
    unfold dbl
    by_cases h : c = 39
    · subst h
      rw [replaceAll_hit (by simp) (by simp) (by simp), if_pos rfl]
      simp [ih]
    · rw [replaceAll_miss (by simp) (by simp) (by simp [List.isPrefixOf, Ne.symm h]), if_neg h, ih]

theorem dbl_length (l : List UInt8) : (dbl l).length ≤ 2 * l.length := by
  induction l with
  | nil => simp [dbl]
  | cons c r ih => unfold dbl; split <;> simp <;> omega

/-- Each pair of quotes is x. -/
def pairs (x : UInt8) : List UInt8 → List UInt8
  | [] => []
  | [c] => [c]
  | c :: d :: r => if c = 39 ∧ d = 39 then x :: pairs x r else c :: pairs x (d :: r)

theorem replaceAll_pairs (x : UInt8) : ∀ (n : Nat) (l : List UInt8), l.length ≤ n → Lib.replaceAll l [39, 39] [x] = pairs x l := by
  intro n
  induction n with
  | zero => intro l h; obtain rfl : l = [] := by simpa using h
            exact replaceAll_nil (by simp)
  | succ n ih =>
    intro l h
    match l, h with
    | [], _ => exact replaceAll_nil (by simp)
    | [c], _ => rw [replaceAll_miss (by simp) (by simp) (by simp [List.isPrefixOf]), replaceAll_nil (by simp)]; rfl
    | c :: d :: r, h =>
      unfold pairs
      by_cases hc : c = 39 ∧ d = 39
      · obtain ⟨rfl, rfl⟩ := hc
        rw [replaceAll_hit (by simp) (by simp) (by simp), if_pos ⟨rfl, rfl⟩]
        simp only [List.length_cons] at h
        simp [ih r (by omega)]
      · rw [replaceAll_miss (by simp) (by simp) (by simp [List.isPrefixOf]; exact fun e1 e2 => hc ⟨e1.symm, e2.symm⟩), if_neg hc, ih (d :: r) (by simp at h ⊢; omega)]

theorem pairs_length (x : UInt8) : ∀ (n : Nat) (l : List UInt8), l.length ≤ n → (pairs x l).length ≤ l.length := by
  intro n
  induction n with
  | zero => intro l h; obtain rfl : l = [] := by simpa using h
            simp [pairs]
  | succ n ih =>
    intro l h
    match l, h with
    | [], _ => simp [pairs]
    | [c], _ => simp [pairs]
    | c :: d :: r, h =>
      simp only [List.length_cons] at h
      unfold pairs
      split
      · have := ih r (by omega); simp; omega
      · have := ih (d :: r) (by simp; omega); simp at this ⊢; omega

end Go.Proofs.YtdhaddldmooniaaGreatDoor
