/- Plain facts on decoding, quotes. -/
import Derived.Test.YtdhaddldmooniaaGreatDoorP1
import Derived.Lib.Strings
import GoSem.Core.Utf8
namespace Go.Proofs.YtdhaddldmooniaaGreatDoor

theorem get_list (l : List UInt8) (i : Nat) : (⟨l.toArray⟩ : ByteArray).get! i = l.getD i 0 := by
  show l.toArray[i]! = _
  simp [List.getD]
  rfl

/-- What the decoding of one rune says of quotes. -/
theorem decode_quote (l : List UInt8) (i : Nat) (h : i < l.length) :
    1 ≤ (Utf8.decode ⟨l.toArray⟩ i).2 ∧ i + (Utf8.decode ⟨l.toArray⟩ i).2 ≤ l.length ∧ ((Utf8.decode ⟨l.toArray⟩ i).1 = 39 ↔ l[i]? = some 39) ∧ (∀ j, i < j → j < i + (Utf8.decode ⟨l.toArray⟩ i).2 → l[j]? ≠ some 39) := by
  have hsz : (⟨l.toArray⟩ : ByteArray).size = l.length := by show l.toArray.size = _; simp
  have e0 : l[i]? = some (l.getD i 0) := by simp [h]
  have q0 : l[i]? = some 39 ↔ (l.getD i 0).toNat = 39 := by
    rw [e0]; constructor
    · intro e; injection e with e; rw [e]; rfl
    · intro e; congr 1; exact UInt8.toNat_inj.1 e
  have far : ∀ j, 128 ≤ (l.getD j 0).toNat → l[j]? ≠ some 39 := by
    intro j hj e
    have : l.getD j 0 = 39 := by simp [List.getD, e]
    rw [this] at hj; exact absurd hj (by decide)
  unfold Utf8.decode
  simp only [get_list, hsz, Nat.add_zero]
  generalize hb0 : (l.getD i 0).toNat = b0 at *
  have f1 := far (i + 1)
  have f2 := far (i + 2)
  have f3 := far (i + 3)
  generalize hb1 : (l.getD (i + 1) 0).toNat = b1 at *
  generalize hb2 : (l.getD (i + 2) 0).toNat = b2 at *
  generalize hb3 : (l.getD (i + 3) 0).toNat = b3 at *
  rw [q0]
  clear q0 e0 far
  by_cases c0 : b0 < 128
  · rw [if_pos c0]
    exact ⟨Nat.le_refl _, by simp; omega, by simp, fun j h1 h2 => by simp at h2; omega⟩
  rw [if_neg c0]
  split
  · rename_i c1
    simp only [Bool.and_eq_true, beq_iff_eq, decide_eq_true_eq] at c1
    split
    · refine ⟨by simp, by simp; omega, by simp; omega, fun j h1 h2 => ?_⟩
      simp at h2
      obtain rfl : j = i + 1 := by omega
      exact f1 (by omega)
    · exact ⟨Nat.le_refl _, by simp; omega, by simp [Utf8.runeError]; omega, fun j h1 h2 => by simp at h2; omega⟩
  split
  · rename_i c1
    simp only [Bool.and_eq_true, beq_iff_eq, decide_eq_true_eq] at c1
    split
    · rename_i c2
      simp only [Bool.and_eq_true, decide_eq_true_eq] at c2
      refine ⟨by simp, by simp; omega, by simp; omega, fun j h1 h2 => ?_⟩
      simp at h2
      have hj : j = i + 1 ∨ j = i + 2 := by omega
      rcases hj with rfl | rfl
      · exact f1 (by omega)
      · exact f2 (by omega)
    · exact ⟨Nat.le_refl _, by simp; omega, by simp [Utf8.runeError]; omega, fun j h1 h2 => by simp at h2; omega⟩
  split
  · rename_i c1
    simp only [Bool.and_eq_true, beq_iff_eq, decide_eq_true_eq] at c1
    split
    · rename_i c2
      simp only [Bool.and_eq_true, decide_eq_true_eq] at c2
      refine ⟨by simp, by simp; omega, by simp; omega, fun j h1 h2 => ?_⟩
      simp at h2
      have hj : j = i + 1 ∨ j = i + 2 ∨ j = i + 3 := by omega
      rcases hj with rfl | rfl | rfl
      · exact f1 (by omega)
      · exact f2 (by omega)
      · exact f3 (by omega)
    · exact ⟨Nat.le_refl _, by simp; omega, by simp [Utf8.runeError]; omega, fun j h1 h2 => by simp at h2; omega⟩
  · exact ⟨Nat.le_refl _, by simp; omega, by simp [Utf8.runeError]; omega, fun j h1 h2 => by simp at h2; omega⟩

/-- Is there a quote among the first n? -/
def odd (l : List UInt8) (n : Nat) : Bool := (l.take n).contains 39
theorem odd_zero (l : List UInt8) : odd l 0 = false := by simp [odd]
theorem odd_all (l : List UInt8) : odd l l.length = l.contains 39 := by simp [odd]
theorem odd_next (l : List UInt8) (i : Nat) (h : i < l.length) : odd l (i + (Utf8.decode ⟨l.toArray⟩ i).2) = (odd l i || decide ((Utf8.decode ⟨l.toArray⟩ i).1 = 39)) := by
  obtain ⟨h1, h2, h3, h4⟩ := decode_quote l i h
  generalize (Utf8.decode ⟨l.toArray⟩ i).2 = d at *
  generalize (Utf8.decode ⟨l.toArray⟩ i).1 = r at *
  rw [Bool.eq_iff_iff]
  simp only [odd, List.contains_iff_mem, Bool.or_eq_true, decide_eq_true_eq, List.mem_iff_getElem?, List.getElem?_take, h3]
  constructor
  · rintro ⟨j, hj⟩
    split at hj
    · rename_i hlt
      by_cases hji : j < i
      · exact .inl ⟨j, by rw [if_pos hji]; exact hj⟩
      · by_cases e : j = i
        · subst e; exact .inr hj
        · exact absurd hj (h4 j (by omega) hlt)
    · cases hj
  · rintro (⟨j, hj⟩ | hj)
    · split at hj
      · exact ⟨j, by rw [if_pos (by omega)]; exact hj⟩
      · cases hj
    · exact ⟨i, by rw [if_pos (by omega)]; exact hj⟩

def cutQ (l : List UInt8) : Option (List UInt8) := if Lib.hasPrefix l [39] && Lib.hasSuffix (Lib.trimPrefix l [39]) [39] then some (Lib.trimSuffix (Lib.trimPrefix l [39]) [39]) else none
/-- What stands between quotes. -/
def unq (l : List UInt8) : Option (List UInt8) := (cutQ l).bind fun r => if (pairs 0 r).contains 39 then none else some (pairs 39 r)

theorem cutQ_iff (l r : List UInt8) : cutQ l = some r ↔ l = 39 :: (r ++ [39]) := by
  unfold cutQ
  cases l with
  | nil => simp [Lib.hasPrefix]
  | cons c t =>
    by_cases hc : c = 39
    · subst hc
      have hp : Lib.hasPrefix (39 :: t) [39] = true := by simp [Lib.hasPrefix, List.isPrefixOf]
      have ht : Lib.trimPrefix (39 :: t) [39] = t := by simp [Lib.trimPrefix, hp]
      rw [hp, ht]
      by_cases hs : ∃ u, t = u ++ [39]
      · obtain ⟨u, rfl⟩ := hs
        have h2 : Lib.hasSuffix (u ++ [39]) [39] = true := by simp [Lib.hasSuffix]
        simp [h2, Lib.trimSuffix]
      · have h2 : Lib.hasSuffix t [39] = false := by
          simp only [Lib.hasSuffix, Bool.eq_false_iff, ne_eq, List.isSuffixOf_iff_suffix]
          rintro ⟨u, hu⟩
          exact hs ⟨u, hu.symm⟩
        simp only [h2, Bool.and_false, Bool.false_eq_true, if_false]
        constructor
        · intro h; cases h
        · intro h; injection h with _ h; exact absurd ⟨r, h⟩ hs
    · have hp : Lib.hasPrefix (c :: t) [39] = false := by simp [Lib.hasPrefix, List.isPrefixOf, Ne.symm hc]
      simp only [hp, Bool.false_and, Bool.false_eq_true, if_false]
      constructor
      · intro h; cases h
      · intro h; injection h with h _; exact absurd h hc

theorem cutQ_length {l r : List UInt8} (h : cutQ l = some r) : r.length + 2 = l.length := by
  rw [(cutQ_iff l r).1 h]; simp

end Go.Proofs.YtdhaddldmooniaaGreatDoor
