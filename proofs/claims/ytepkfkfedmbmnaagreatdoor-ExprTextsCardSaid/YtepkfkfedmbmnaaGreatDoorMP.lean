/- Plain facts on texts: what strings.ReplaceAll comes to, a piece at a time; doubled quotes; pairs of quotes. Plain facts on decoding, quotes. Plain facts on hexadecimal digits. Plain facts on numerals: their digits spell the number, and ParseInt reads back what Itoa writes. Tokens, in plain words: where one ends, what stands between two; a text's tokens. More on tokens in plain words. -/
import Derived.Lib.Replace
import Derived.Lib.ReplaceLaws
import Derived.Lib.CountLaws
import Derived.Lib.Strings
import GoSem.Core.Utf8
import Derived.Lib.Bytealg
import Derived.Lib.SlTrimSet
import Derived.Laws.Entries
import Derived.Lib.ParseIntB
import Derived.Lib.ItoaMem
import Derived.Lib.ItoaLen
import Derived.Lib.Hide
namespace Go.Proofs.YtepkfkfedmbmnaaGreatDoor

theorem replaceAll_nil {old new : List UInt8} (ho : old ≠ []) : Lib.replaceAll [] old new = [] := by
  have hi : Lib.index [] old = -1 := by cases old <;> simp_all [Lib.index]
  unfold Lib.replaceAll Lib.replace
  split
  · rfl
  · rw [Lib.replaceNum, if_pos (by simp), Lib.count_miss hi]; rfl

theorem replaceAll_hit {s old new : List UInt8} (ho : old ≠ []) (hn : old ≠ new) (h : old.isPrefixOf s = true) : Lib.replaceAll s old new = new ++ Lib.replaceAll (s.drop old.length) old new := by
  have hi : Lib.index s old = (0 : Nat) := by
    cases s with
    | nil => cases old <;> simp_all
    | cons b l => simp [Lib.index, h]
  have hne : (old == new) = false := by simpa using hn
  unfold Lib.replaceAll Lib.replace
  rw [hne]
  simp only [Lib.replaceNum, Bool.false_eq_true, if_false]
  rw [if_pos (by simp), if_pos (by simp), Lib.count_hit ho hi, Nat.add_comm, Lib.replaceK_hit _ _ _ _ 0 hi]
  simp

theorem replaceAll_miss {b : UInt8} {l old new : List UInt8} (ho : old ≠ []) (hn : old ≠ new) (h : old.isPrefixOf (b :: l) = false) : Lib.replaceAll (b :: l) old new = b :: Lib.replaceAll l old new := by
  have hne : (old == new) = false := by simpa using hn
  unfold Lib.replaceAll Lib.replace
  rw [hne]
  simp only [Lib.replaceNum, Bool.false_eq_true, if_false]
  rw [if_pos (by simp), if_pos (by simp)]
  rcases Lib.index_spec l old with ⟨hi, _⟩ | ⟨i, hi, _⟩
  · have hi' : Lib.index (b :: l) old = -1 := by simp [Lib.index, h, hi]
    rw [Lib.count_miss hi, Lib.count_miss hi']; rfl
  · have hi' : Lib.index (b :: l) old = (i + 1 : Nat) := by
      simp [Lib.index, h, hi]
    rw [Lib.count_hit ho hi, Lib.count_hit ho hi', Nat.add_comm 1, Nat.add_comm 1, Lib.replaceK_hit _ _ _ _ (i + 1) hi', Lib.replaceK_hit _ _ _ _ i hi]
    have e : i + 1 + old.length = (i + old.length) + 1 := by omega
    rw [e]
    simp

/-- Each quote twice. -/
def dbl : List UInt8 → List UInt8
  | [] => []
  | c :: r => if c = 39 then 39 :: 39 :: dbl r else c :: dbl r

theorem replaceAll_dbl (l : List UInt8) : Lib.replaceAll l [39] [39, 39] = dbl l := by
  induction l with
  | nil => exact replaceAll_nil (by simp)
  | cons c r ih =>
    unfold dbl
    by_cases h : c = 39
    · subst h
      rw [replaceAll_hit (by simp) (by simp) (by simp), if_pos rfl]
      simp [ih]
    · rw [replaceAll_miss (by simp) (by simp) (by simp [List.isPrefixOf, Ne.symm h]), if_neg h, ih]

theorem dbl_length (l : List UInt8) : (dbl l).length ≤ 2 * l.length := by
  induction l with
  | nil => simp [dbl]
  | cons c r ih => unfold dbl; split <;> simp <;> omega

/-- Each pair of quotes is x. -/
def pairs (x : UInt8) : List UInt8 → List UInt8
  | [] => []
  | [c] => [c]
  | c :: d :: r => if c = 39 ∧ d = 39 then x :: pairs x r else c :: pairs x (d :: r)

theorem replaceAll_pairs (x : UInt8) : ∀ (n : Nat) (l : List UInt8), l.length ≤ n → Lib.replaceAll l [39, 39] [x] = pairs x l := by
  intro n
  induction n with
  | zero => intro l h; obtain rfl : l = [] := by simpa using h
            exact replaceAll_nil (by simp)
  | succ n ih =>
    intro l h
    match l, h with
    | [], _ => exact replaceAll_nil (by simp)
    | [c], _ => rw [replaceAll_miss (by simp) (by simp) (by simp [List.isPrefixOf]), replaceAll_nil (by simp)]; rfl
    | c :: d :: r, h =>
      unfold pairs
      by_cases hc : c = 39 ∧ d = 39
      · obtain ⟨rfl, rfl⟩ := hc
        rw [replaceAll_hit (by simp) (by simp) (by simp), if_pos ⟨rfl, rfl⟩]
        simp only [List.length_cons] at h
        simp [ih r (by omega)]
      · rw [replaceAll_miss (by simp) (by simp) (by simp [List.isPrefixOf]; exact fun e1 e2 => hc ⟨e1.symm, e2.symm⟩), if_neg hc, ih (d :: r) (by simp at h ⊢; omega)]

theorem pairs_length (x : UInt8) : ∀ (n : Nat) (l : List UInt8), l.length ≤ n → (pairs x l).length ≤ l.length := by
  intro n
  induction n with
  | zero => intro l h; obtain rfl : l = [] := by simpa using h
            simp [pairs]
  | succ n ih =>
    intro l h
    match l, h with
    | [], _ => simp [pairs]
    | [c], _ => simp [pairs]
    | c :: d :: r, h =>
      simp only [List.length_cons] at h
      unfold pairs
      split
      · have := ih r (by omega); simp; omega
      · have := ih (d :: r) (by simp; omega); simp at this ⊢; omega

end Go.Proofs.YtepkfkfedmbmnaaGreatDoor

namespace Go.Proofs.YtepkfkfedmbmnaaGreatDoor

theorem get_list (l : List UInt8) (i : Nat) : (⟨l.toArray⟩ : ByteArray).get! i = l.getD i 0 := by
  show l.toArray[i]! = _
  simp [List.getD]
  rfl

/-- What the decoding of one rune says of quotes. -/
theorem decode_quote (l : List UInt8) (i : Nat) (h : i < l.length) :
    1 ≤ (Utf8.decode ⟨l.toArray⟩ i).2 ∧ i + (Utf8.decode ⟨l.toArray⟩ i).2 ≤ l.length ∧ ((Utf8.decode ⟨l.toArray⟩ i).1 = 39 ↔ l[i]? = some 39) ∧ (∀ j, i < j → j < i + (Utf8.decode ⟨l.toArray⟩ i).2 → l[j]? ≠ some 39) := by
  have hsz : (⟨l.toArray⟩ : ByteArray).size = l.length := by show l.toArray.size = _; simp
  have e0 : l[i]? = some (l.getD i 0) := by simp [h]
  have q0 : l[i]? = some 39 ↔ (l.getD i 0).toNat = 39 := by
    rw [e0]; constructor
    · intro e; injection e with e; rw [e]; rfl
    · intro e; congr 1; exact UInt8.toNat_inj.1 e
  have far : ∀ j, 128 ≤ (l.getD j 0).toNat → l[j]? ≠ some 39 := by
    intro j hj e
    have : l.getD j 0 = 39 := by simp [List.getD, e]
    rw [this] at hj; exact absurd hj (by decide)
  unfold Utf8.decode
  simp only [get_list, hsz, Nat.add_zero]
  generalize hb0 : (l.getD i 0).toNat = b0 at *
  have f1 := far (i + 1)
  have f2 := far (i + 2)
  have f3 := far (i + 3)
  generalize hb1 : (l.getD (i + 1) 0).toNat = b1 at *
  generalize hb2 : (l.getD (i + 2) 0).toNat = b2 at *
  generalize hb3 : (l.getD (i + 3) 0).toNat = b3 at *
  rw [q0]
  clear q0 e0 far
  by_cases c0 : b0 < 128
  · rw [if_pos c0]
    exact ⟨Nat.le_refl _, by simp; omega, by simp, fun j h1 h2 => by simp at h2; omega⟩
  rw [if_neg c0]
  split
  · rename_i c1
    simp only [Bool.and_eq_true, beq_iff_eq, decide_eq_true_eq] at c1
    split
    · refine ⟨by simp, by simp; omega, by simp; omega, fun j h1 h2 => ?_⟩
      simp at h2
      obtain rfl : j = i + 1 := by omega
      exact f1 (by omega)
    · exact ⟨Nat.le_refl _, by simp; omega, by simp [Utf8.runeError]; omega, fun j h1 h2 => by simp at h2; omega⟩
  split
  · rename_i c1
    simp only [Bool.and_eq_true, beq_iff_eq, decide_eq_true_eq] at c1
    split
    · rename_i c2
      simp only [Bool.and_eq_true, decide_eq_true_eq] at c2
      refine ⟨by simp, by simp; omega, by simp; omega, fun j h1 h2 => ?_⟩
      simp at h2
      have hj : j = i + 1 ∨ j = i + 2 := by omega
      rcases hj with rfl | rfl
      · exact f1 (by omega)
      · exact f2 (by omega)
    · exact ⟨Nat.le_refl _, by simp; omega, by simp [Utf8.runeError]; omega, fun j h1 h2 => by simp at h2; omega⟩
  split
  · rename_i c1
    simp only [Bool.and_eq_true, beq_iff_eq, decide_eq_true_eq] at c1
    split
    · rename_i c2
      simp only [Bool.and_eq_true, decide_eq_true_eq] at c2
      refine ⟨by simp, by simp; omega, by simp; omega, fun j h1 h2 => ?_⟩
      simp at h2
      have hj : j = i + 1 ∨ j = i + 2 ∨ j = i + 3 := by omega
      rcases hj with rfl | rfl | rfl
      · exact f1 (by omega)
      · exact f2 (by omega)
      · exact f3 (by omega)
    · exact ⟨Nat.le_refl _, by simp; omega, by simp [Utf8.runeError]; omega, fun j h1 h2 => by simp at h2; omega⟩
  · exact ⟨Nat.le_refl _, by simp; omega, by simp [Utf8.runeError]; omega, fun j h1 h2 => by simp at h2; omega⟩

/-- Is there a quote among the first n? -/
def odd (l : List UInt8) (n : Nat) : Bool := (l.take n).contains 39
theorem odd_zero (l : List UInt8) : odd l 0 = false := by simp [odd]
theorem odd_all (l : List UInt8) : odd l l.length = l.contains 39 := by simp [odd]
theorem odd_next (l : List UInt8) (i : Nat) (h : i < l.length) : odd l (i + (Utf8.decode ⟨l.toArray⟩ i).2) = (odd l i || decide ((Utf8.decode ⟨l.toArray⟩ i).1 = 39)) := by
  obtain ⟨h1, h2, h3, h4⟩ := decode_quote l i h
  generalize (Utf8.decode ⟨l.toArray⟩ i).2 = d at *
  generalize (Utf8.decode ⟨l.toArray⟩ i).1 = r at *
  rw [Bool.eq_iff_iff]
  simp only [odd, List.contains_iff_mem, Bool.or_eq_true, decide_eq_true_eq, List.mem_iff_getElem?, List.getElem?_take, h3]
  constructor
  · rintro ⟨j, hj⟩
    split at hj
    · rename_i hlt
      by_cases hji : j < i
      · exact .inl ⟨j, by rw [if_pos hji]; exact hj⟩
      · by_cases e : j = i
        · subst e; exact .inr hj
        · exact absurd hj (h4 j (by omega) hlt)
    · cases hj
  · rintro (⟨j, hj⟩ | hj)
    · split at hj
      · exact ⟨j, by rw [if_pos (by omega)]; exact hj⟩
      · cases hj
    · exact ⟨i, by rw [if_pos (by omega)]; exact hj⟩

def cutQ (l : List UInt8) : Option (List UInt8) := if Lib.hasPrefix l [39] && Lib.hasSuffix (Lib.trimPrefix l [39]) [39] then some (Lib.trimSuffix (Lib.trimPrefix l [39]) [39]) else none
/-- What stands between quotes. -/
def unq (l : List UInt8) : Option (List UInt8) := (cutQ l).bind fun r => if (pairs 0 r).contains 39 then none else some (pairs 39 r)

theorem cutQ_iff (l r : List UInt8) : cutQ l = some r ↔ l = 39 :: (r ++ [39]) := by
  unfold cutQ
  cases l with
  | nil => simp [Lib.hasPrefix]
  | cons c t =>
    by_cases hc : c = 39
    · subst hc
      have hp : Lib.hasPrefix (39 :: t) [39] = true := by simp [Lib.hasPrefix, List.isPrefixOf]
      have ht : Lib.trimPrefix (39 :: t) [39] = t := by simp [Lib.trimPrefix, hp]
      rw [hp, ht]
      by_cases hs : ∃ u, t = u ++ [39]
      · obtain ⟨u, rfl⟩ := hs
        have h2 : Lib.hasSuffix (u ++ [39]) [39] = true := by simp [Lib.hasSuffix]
        simp [h2, Lib.trimSuffix]
      · have h2 : Lib.hasSuffix t [39] = false := by
          simp only [Lib.hasSuffix, Bool.eq_false_iff, ne_eq, List.isSuffixOf_iff_suffix]
          rintro ⟨u, hu⟩
          exact hs ⟨u, hu.symm⟩
        simp only [h2, Bool.and_false, Bool.false_eq_true, if_false]
        constructor
        · intro h; cases h
        · intro h; injection h with _ h; exact absurd ⟨r, h⟩ hs
    · have hp : Lib.hasPrefix (c :: t) [39] = false := by simp [Lib.hasPrefix, List.isPrefixOf, Ne.symm hc]
      simp only [hp, Bool.false_and, Bool.false_eq_true, if_false]
      constructor
      · intro h; cases h
      · intro h; injection h with h _; exact absurd h hc

theorem cutQ_length {l r : List UInt8} (h : cutQ l = some r) : r.length + 2 = l.length := by
  rw [(cutQ_iff l r).1 h]; simp

end Go.Proofs.YtepkfkfedmbmnaaGreatDoor

namespace Go.Proofs.YtepkfkfedmbmnaaGreatDoor

def digitsL : List UInt8 := [48, 49, 50, 51, 52, 53, 54, 55, 56, 57, 97, 98, 99, 100, 101, 102]
/-- A digit's number. -/
def hv (c : UInt8) : Int := Lib.indexByte digitsL c
def isHex (c : UInt8) : Bool := digitsL.contains c
def unhex : List UInt8 → List UInt8
  | a :: b :: r => UInt8.ofNat ((16 * hv a + hv b).toNat) :: unhex r
  | _ => []

theorem unhex_length (l : List UInt8) : (unhex l).length ≤ l.length := by
  match l with
  | [] => simp [unhex]
  | [_] => simp [unhex]
  | a :: b :: r => have := unhex_length r; simp [unhex]; omega
theorem unhex_append : ∀ (p q : List UInt8), p.length % 2 = 0 → unhex (p ++ q) = unhex p ++ unhex q
  | [], q, _ => by simp [unhex]
  | [_], _, h => by simp at h
  | a :: b :: r, q, h => by
    have := unhex_append r q (by simp at h; omega)
    simp [unhex, this]
theorem hv_range : ∀ c : UInt8, isHex c = true → 0 ≤ hv c ∧ hv c < 16 := by
  intro c hc
  have : c ∈ digitsL := by simpa [isHex] using hc
  simp only [digitsL, List.mem_cons, List.mem_nil_iff, or_false] at this
  rcases this with rfl | rfl | rfl | rfl | rfl | rfl | rfl | rfl | rfl | rfl | rfl | rfl | rfl | rfl | rfl | rfl <;> decide

theorem trimS_nil_iff (l cs : List UInt8) : Lib.trimS l cs = [] ↔ ∀ c ∈ l, cs.contains c = true := by
  have left : ∀ l : List UInt8, Lib.trimLeftS l cs = [] ↔ ∀ c ∈ l, cs.contains c = true := by
    intro l
    unfold Lib.trimLeftS
    induction l with
    | nil => simp
    | cons a r ih =>
      by_cases h : cs.contains a = true
      · rw [List.dropWhile_cons_of_pos (by simpa using h), ih]
        constructor
        · intro hr c hc
          rcases List.mem_cons.1 hc with rfl | hc
          · exact h
          · exact hr c hc
        · intro hr c hc; exact hr c (List.mem_cons_of_mem _ hc)
      · rw [List.dropWhile_cons_of_neg (by simpa using h)]
        constructor
        · intro hr; cases hr
        · intro hr; exact absurd (hr a (List.mem_cons_self ..)) h
  have tw : ∀ (l : List UInt8) (c : UInt8), c ∈ l.takeWhile (cs.contains ·) → cs.contains c = true := by
    intro l
    induction l with
    | nil => intro c hc; cases hc
    | cons a r ih =>
      intro c hc
      by_cases h : cs.contains a = true
      · rw [List.takeWhile_cons_of_pos (by simpa using h)] at hc
        rcases List.mem_cons.1 hc with rfl | hc
        · exact h
        · exact ih c hc
      · rw [List.takeWhile_cons_of_neg (by simpa using h)] at hc; cases hc
  unfold Lib.trimS
  rw [left]
  unfold Lib.trimRightS
  constructor
  · intro h c hc
    have hc' : c ∈ l.reverse.takeWhile (cs.contains ·) ++ l.reverse.dropWhile (cs.contains ·) := by rw [List.takeWhile_append_dropWhile]; exact List.mem_reverse.2 hc
    rcases List.mem_append.1 hc' with h1 | h1
    · exact tw _ c h1
    · exact h c (List.mem_reverse.2 h1)
  · intro h c hc
    refine h c ?_
    have := List.mem_reverse.1 hc
    exact List.mem_reverse.1 ((List.dropWhile_sublist _).mem this)

theorem or_digits : ∀ a b : Fin 16, bits BinOp.or IntKind.i64 ((a.val : Int) * 16) (b.val : Int) = (a.val : Int) * 16 + (b.val : Int) := by decide

theorem unhex_take (l : List UInt8) (m : Nat) (h : m % 2 = 0) (hm : m < l.length) (hm1 : m + 1 < l.length) :
    unhex (l.take (m + 2)) = unhex (l.take m) ++ [UInt8.ofNat ((16 * hv l[m] + hv l[m + 1]).toNat)] := by
  have e : l.take (m + 2) = l.take m ++ [l[m], l[m + 1]] := by
    have e1 := List.take_add_one (l := l) (i := m + 1)
    have e2 := List.take_add_one (l := l) (i := m)
    rw [List.getElem?_eq_getElem hm1] at e1
    rw [List.getElem?_eq_getElem hm] at e2
    rw [show m + 2 = (m + 1) + 1 from rfl, e1, e2, List.append_assoc]
    rfl
  rw [e, unhex_append _ _ (by simp; omega)]
  rfl

end Go.Proofs.YtepkfkfedmbmnaaGreatDoor

namespace Go.Proofs.YtepkfkfedmbmnaaGreatDoor
set_option maxRecDepth 100000

/-- What the digits spell behind a. -/
def dvA (a : Nat) (l : List UInt8) : Nat := l.foldl (fun a c => a * 10 + (c.toNat - 48)) a
def dv (l : List UInt8) : Nat := dvA 0 l
def isDig (c : UInt8) : Prop := 48 ≤ c.toNat ∧ c.toNat ≤ 57

theorem dvA_le (l : List UInt8) : ∀ a, a ≤ dvA a l := by
  induction l with
  | nil => intro a; exact Nat.le_refl _
  | cons c r ih => intro a; have := ih (a * 10 + (c.toNat - 48)); show a ≤ dvA (a * 10 + (c.toNat - 48)) r; omega
theorem dvA_append (a : Nat) (l m : List UInt8) : dvA a (l ++ m) = dvA (dvA a l) m := by simp [dvA]
theorem dv_snoc (l : List UInt8) (c : UInt8) : dv (l ++ [c]) = dv l * 10 + (c.toNat - 48) := by simp [dv, dvA]
theorem dv_take_le (l : List UInt8) (k : Nat) : dv (l.take k) ≤ dv l := by
  conv => rhs; rw [← List.take_append_drop k l]
  unfold dv; rw [dvA_append]; exact dvA_le _ _
theorem dig_nat (d : Nat) (h : d < 10) : (UInt8.ofNat (48 + d)).toNat = 48 + d := by
  have : ∀ m : Fin 10, (UInt8.ofNat (48 + m.val)).toNat = 48 + m.val := by decide
  exact this ⟨d, h⟩
theorem dv_dec (u : Nat) : dv (Lib.decDigits u) = u := by
  induction u using Nat.strongRecOn with
  | _ u ih =>
    by_cases h : u < 10
    · rw [Lib.decDigits_one h]; show 0 * 10 + ((UInt8.ofNat (48 + u)).toNat - 48) = u; rw [dig_nat u h]; omega
    · rw [Lib.decDigits, dif_neg h, dv_snoc, ih (u / 10) (by omega), dig_nat _ (by omega)]; omega
theorem dec_dig (u : Nat) : ∀ c ∈ Lib.decDigits u, isDig c := by
  induction u using Nat.strongRecOn with
  | _ u ih =>
    by_cases h : u < 10
    · rw [Lib.decDigits_one h]; intro c hc; have hc := List.mem_singleton.1 hc
      unfold isDig; rw [hc, dig_nat u h]; omega
    · rw [Lib.decDigits, dif_neg h]
      intro c hc
      rcases List.mem_append.1 hc with hc | hc
      · exact ih (u / 10) (by omega) c hc
      · have hc := List.mem_singleton.1 hc
        unfold isDig; rw [hc, dig_nat _ (by omega)]; omega
theorem dec_ne (u : Nat) : Lib.decDigits u ≠ [] := by
  intro h; have := Lib.decDigits_length u; rw [h] at this; have := Lib.nDigits_pos u; simp at *; omega
theorem nDigits_le19 : ∀ (k u : Nat), u < 10 ^ (k + 1) → Lib.nDigits u ≤ k + 1
  | 0, u, h => by rw [Lib.nDigits_small (by simpa using h)]; exact Nat.le_refl _
  | k + 1, u, h => by
    by_cases hu : u < 10
    · rw [Lib.nDigits_small hu]; omega
    · rw [Lib.nDigits_big hu]
      have := nDigits_le19 k (u / 10) (by rw [Nat.pow_succ] at h; omega)
      omega
theorem dec_len19 (u : Nat) (h : u ≤ 9223372036854775808) : (Lib.decDigits u).length ≤ 19 := by
  rw [Lib.decDigits_length]; exact nDigits_le19 18 u (by simp; omega)
theorem dec_len1 (u : Nat) : 1 ≤ (Lib.decDigits u).length := by rw [Lib.decDigits_length]; exact Lib.nDigits_pos u

theorem uintM_ok : ∀ (l : List UInt8) (a : Nat), (∀ c ∈ l, isDig c) → dvA a l ≤ 18446744073709551615 → Lib.parseUintM 18446744073709551615 a l = .ok (dvA a l)
  | [], a, _, _ => rfl
  | c :: r, a, hd, hm => by
    have hc := hd c (by simp)
    have hm' : dvA (a * 10 + (c.toNat - 48)) r ≤ 18446744073709551615 := hm
    have := dvA_le r (a * 10 + (c.toNat - 48))
    unfold isDig at hc
    unfold Lib.parseUintM
    rw [if_pos hc, if_neg (by omega), if_neg (by omega), uintM_ok r _ (fun d h => hd d (by simp [h])) hm']
    rfl

theorem parse_pos (u : Nat) (h : u ≤ 9223372036854775807) : Lib.parseIntB 64 (Lib.decDigits u) = .ok (u : Int) := by
  have hM := uintM_ok (Lib.decDigits u) 0 (dec_dig u) (by show dv _ ≤ _; rw [dv_dec]; omega)
  have hv := dv_dec u
  have hn := dec_ne u
  have hdig := dec_dig u
  unfold dv at hv
  rw [hv] at hM
  generalize Lib.decDigits u = l at *
  match l, hn with
  | c :: r, _ =>
    have hc := hdig c (by simp)
    unfold isDig at hc
    unfold Lib.parseIntB
    simp only []
    rw [if_neg (by omega)]
    unfold Lib.parseUintB
    rw [if_neg (by simp)]
    rw [show (2 : Nat) ^ 64 - 1 = 18446744073709551615 from rfl, hM]
    simp only []
    rw [if_neg (by intro hh; have := hh.2; simp at this; omega), if_neg (by intro hh; omega), if_neg (by omega)]
theorem parse_neg (u : Nat) (h : u ≤ 9223372036854775808) : Lib.parseIntB 64 (45 :: Lib.decDigits u) = .ok (-(u : Int)) := by
  have hM := uintM_ok (Lib.decDigits u) 0 (dec_dig u) (by show dv _ ≤ _; rw [dv_dec]; omega)
  have hv := dv_dec u
  have hn := dec_ne u
  unfold dv at hv
  rw [hv] at hM
  generalize Lib.decDigits u = l at *
  unfold Lib.parseIntB
  simp only []
  rw [if_pos (show UInt8.toNat 45 = 43 ∨ UInt8.toNat 45 = 45 from Or.inr rfl)]
  unfold Lib.parseUintB
  rw [if_neg hn]
  rw [show (2 : Nat) ^ 64 - 1 = 18446744073709551615 from rfl, hM]
  simp only []
  rw [if_neg (by intro hh; exact hh.1 rfl), if_neg (by intro hh; have := hh.2; simp at this; omega), if_pos (show UInt8.toNat 45 = 45 from rfl)]
theorem parse_itoa (n : Int) (h0 : -9223372036854775808 ≤ n) (h1 : n ≤ 9223372036854775807) : Lib.parseIntB 64 (Lib.itoa n) = .ok n := by
  by_cases h : n < 0
  · obtain ⟨u, rfl⟩ : ∃ u : Nat, n = -(u : Int) := ⟨n.natAbs, by omega⟩
    rw [Lib.itoa_neg u (by omega)]; exact parse_neg u (by omega)
  · obtain ⟨u, rfl⟩ : ∃ u : Nat, n = (u : Int) := ⟨n.toNat, by omega⟩
    rw [Lib.itoa_nonneg u]; exact parse_pos u (by omega)

/-- The digits of a text that may begin with a minus. -/
def digs (s : List UInt8) : List UInt8 := match s with
  | [] => []
  | c :: r => if c = 45 then r else c :: r
theorem not_dig45 : ¬ isDig 45 := by unfold isDig; decide
theorem digs_itoa (n : Int) : digs (Lib.itoa n) = Lib.decDigits n.natAbs := by
  by_cases h : n < 0
  · unfold Lib.itoa; rw [if_pos h]; simp [digs]
  · unfold Lib.itoa; rw [if_neg h]
    have hn := dec_ne n.toNat
    have hd := dec_dig n.toNat
    rw [show n.natAbs = n.toNat by omega]
    generalize Lib.decDigits n.toNat = l at *
    match l, hn with
    | c :: r, _ =>
      unfold digs
      simp only []
      rw [if_neg]
      intro e; subst e; exact not_dig45 (hd 45 (by simp))
theorem neg_itoa (n : Int) : (Lib.itoa n)[0]? = some 45 ↔ n < 0 := by
  by_cases h : n < 0
  · unfold Lib.itoa; rw [if_pos h]; simp [h]
  · unfold Lib.itoa; rw [if_neg h]
    have hn := dec_ne n.toNat
    have hd := dec_dig n.toNat
    generalize Lib.decDigits n.toNat = l at *
    match l, hn with
    | c :: r, _ =>
      simp [h]
      intro e; subst e; exact not_dig45 (hd 45 (by simp))

end Go.Proofs.YtepkfkfedmbmnaaGreatDoor

namespace Go.Proofs.YtepkfkfedmbmnaaGreatDoor

def letterB (c : UInt8) : Bool := (97 ≤ c && c ≤ 122) || c == 95
def digitB (c : UInt8) : Bool := 48 ≤ c && c ≤ 57
def wordB (c : UInt8) : Bool := letterB c || digitB c
def blankB (c : UInt8) : Bool := c == 32 || c == 9 || c == 10 || c == 13
/-- How many at the beginning are such. -/
def runB (p : UInt8 → Bool) (l : List UInt8) : Nat := (l.takeWhile p).length

theorem runB_nil (p : UInt8 → Bool) : runB p [] = 0 := rfl
theorem runB_cons (p : UInt8 → Bool) (c : UInt8) (l : List UInt8) : runB p (c :: l) = if p c then runB p l + 1 else 0 := by
  unfold runB; rw [List.takeWhile_cons]; split <;> simp
theorem runB_le (p : UInt8 → Bool) (l : List UInt8) : runB p l ≤ l.length := by
  induction l with
  | nil => simp [runB_nil]
  | cons c r ih => rw [runB_cons]; split <;> simp <;> omega

/-- What begins here is none of these. -/
def Stops (p : UInt8 → Bool) (y : List UInt8) : Prop := ∀ c, y.head? = some c → p c = false
theorem runB_app {p : UInt8 → Bool} {t y : List UInt8} (h : runB p (t ++ y) = t.length) : (∀ c ∈ t, p c = true) ∧ Stops p y := by
  induction t with
  | nil =>
    refine ⟨by simp, ?_⟩
    intro c hc
    cases y with
    | nil => simp at hc
    | cons d y =>
      simp at hc; subst hc
      simp only [List.nil_append, List.length_nil, runB_cons] at h
      split at h
      · omega
      · rename_i hp; simpa using hp
  | cons d t ih =>
    simp only [List.cons_append, List.length_cons, runB_cons] at h
    split at h
    · rename_i hp
      obtain ⟨h1, h2⟩ := ih (by omega)
      exact ⟨by intro c hc; rcases List.mem_cons.1 hc with rfl | hc; exact hp; exact h1 c hc, h2⟩
    · omega
theorem runB_of {p : UInt8 → Bool} {t y : List UInt8} (h : ∀ c ∈ t, p c = true) (hy : Stops p y) : runB p (t ++ y) = t.length := by
  induction t with
  | nil =>
    cases y with
    | nil => rfl
    | cons d y => simp only [List.nil_append, runB_cons, List.length_nil]; rw [hy d rfl]; rfl
  | cons d t ih =>
    simp only [List.cons_append, List.length_cons, runB_cons]
    rw [h d (by simp), if_pos rfl, ih (fun c hc => h c (by simp [hc]))]
theorem runB_drop (p : UInt8 → Bool) (l : List UInt8) : Stops p (l.drop (runB p l)) := by
  induction l with
  | nil => intro c hc; simp [runB_nil] at hc
  | cons d r ih =>
    rw [runB_cons]
    split
    · simpa using ih
    · rename_i hp; intro c hc; simp at hc; subst hc; simpa using hp
theorem runB_take (p : UInt8 → Bool) (l : List UInt8) : ∀ c ∈ l.take (runB p l), p c = true := by
  induction l with
  | nil => simp
  | cons d r ih =>
    rw [runB_cons]
    split
    · rename_i hp; intro c hc; simp at hc; rcases hc with rfl | hc; exact hp; exact ih c hc
    · simp

/-- How many bytes there are up to the closing quote (itself too); quotes come in twos. -/
def qlen : List UInt8 → Option Nat
  | [] => none
  | [c] => if c = 39 then some 1 else none
  | c :: d :: r => if c = 39 then (if d = 39 then (qlen r).map (· + 2) else some 1) else (qlen (d :: r)).map (· + 1)

theorem qlen_cons_ne {c : UInt8} (h : c ≠ 39) (r : List UInt8) : qlen (c :: r) = (qlen r).map (· + 1) := by
  cases r with
  | nil => simp [qlen, h]
  | cons d r => simp [qlen, h]
theorem qlen_pair (r : List UInt8) : qlen (39 :: 39 :: r) = (qlen r).map (· + 2) := by simp [qlen]
theorem qlen_end {r : List UInt8} (h : r.head? ≠ some 39) : qlen (39 :: r) = some 1 := by
  cases r with
  | nil => simp [qlen]
  | cons d r => simp at h; simp [qlen, h]
theorem qlen_le : ∀ (n : Nat) (l : List UInt8), l.length ≤ n → ∀ k, qlen l = some k → 1 ≤ k ∧ k ≤ l.length := by
  intro n
  induction n with
  | zero => intro l hl k h; obtain rfl : l = [] := by simpa using hl
            simp [qlen] at h
  | succ n ih =>
    intro l hl k h
    match l, hl with
    | [], _ => simp [qlen] at h
    | [c], _ => simp [qlen] at h; simp; omega
    | c :: d :: r, hl =>
      simp only [List.length_cons] at hl
      by_cases hc : c = 39
      · subst hc
        by_cases hd : d = 39
        · subst hd
          rw [qlen_pair] at h
          obtain ⟨m, hm, rfl⟩ := Option.map_eq_some_iff.1 h
          have := ih r (by omega) m hm
          simp; omega
        · rw [qlen_end (by simpa using hd)] at h
          simp at h; simp; omega
      · rw [qlen_cons_ne hc] at h
        obtain ⟨m, hm, rfl⟩ := Option.map_eq_some_iff.1 h
        have := ih (d :: r) (by simp; omega) m hm
        simp at this ⊢; omega
theorem qlen_ext : ∀ (n : Nat) (t : List UInt8), t.length ≤ n → ∀ y x, qlen (t ++ y) = some t.length → x.head? ≠ some 39 → y.head? ≠ some 39 ∧ qlen (t ++ x) = some t.length := by
  intro n
  induction n with
  | zero =>
    intro t ht y x h hx
    obtain rfl : t = [] := by simpa using ht
    have := qlen_le _ _ (Nat.le_refl _) _ h
    simp at this
  | succ n ih =>
    intro t ht y x h hx
    match t, ht with
    | [], _ => have := qlen_le _ _ (Nat.le_refl _) _ h; simp at this
    | [c], _ =>
      by_cases hc : c = 39
      · subst hc
        refine ⟨?_, by simpa using qlen_end hx⟩
        intro hy
        cases y with
        | nil => simp at hy
        | cons d y =>
          simp at hy; subst hy
          simp only [List.cons_append, List.nil_append, qlen_pair, List.length_cons, List.length_nil] at h
          obtain ⟨m, hm, hm'⟩ := Option.map_eq_some_iff.1 h
          omega
      · simp only [List.cons_append, List.nil_append, List.length_cons, List.length_nil] at h
        rw [qlen_cons_ne hc] at h
        obtain ⟨m, hm, hm'⟩ := Option.map_eq_some_iff.1 h
        have := qlen_le _ _ (Nat.le_refl _) _ hm
        omega
    | c :: d :: r, ht =>
      simp only [List.length_cons] at ht
      by_cases hc : c = 39
      · subst hc
        by_cases hd : d = 39
        · subst hd
          simp only [List.cons_append, qlen_pair, List.length_cons] at h ⊢
          obtain ⟨m, hm, hm'⟩ := Option.map_eq_some_iff.1 h
          have := ih r (by omega) y x (by rw [hm]; congr 1; omega) hx
          exact ⟨this.1, by rw [this.2]; simp⟩
        · simp only [List.cons_append] at h
          rw [qlen_end (by simpa using hd)] at h
          simp at h
      · simp only [List.cons_append, List.length_cons] at h ⊢
        rw [qlen_cons_ne hc] at h ⊢
        obtain ⟨m, hm, hm'⟩ := Option.map_eq_some_iff.1 h
        have := ih (d :: r) (by simp; omega) y x (by rw [List.cons_append, hm]; congr 1; simp; omega) hx
        refine ⟨this.1, ?_⟩
        rw [← List.cons_append, this.2]; simp

/-- How long the sign is that begins so; 0: none does. -/
def slen (c : UInt8) (h : Option UInt8) : Nat :=
  if c = 60 then (if h = some 62 ∨ h = some 61 then 2 else 1)
  else if c = 62 then (if h = some 61 then 2 else 1)
  else if c = 124 then (if h = some 124 then 2 else 0)
  else if c ∈ ([40, 41, 44, 46, 59, 42, 43, 45, 47, 37, 61] : List UInt8) then 1 else 0

/-- A token's kind and how long it is. -/
def cut1 : List UInt8 → Option (Int × Nat)
  | [] => none
  | c :: r =>
    if letterB c ∧ ¬ (c = 120 ∧ r.head? = some 39) then (if runB wordB r + 1 ≤ 30 then some (1, runB wordB r + 1) else none)
    else if c = 39 then (qlen r).map fun n => (2, n + 1)
    else if c = 120 then (qlen (r.drop 1)).map fun n => (2, n + 2)
    else if digitB c then (if ((r.drop (runB digitB r)).head?.map letterB) = some true then none else some (2, runB digitB r + 1))
    else if slen c r.head? = 0 then none else some (3, slen c r.head?)

theorem cut1_cons (c : UInt8) (r : List UInt8) : cut1 (c :: r) =
    if letterB c ∧ ¬ (c = 120 ∧ r.head? = some 39) then (if runB wordB r + 1 ≤ 30 then some (1, runB wordB r + 1) else none)
    else if c = 39 then (qlen r).map fun n => (2, n + 1)
    else if c = 120 then (qlen (r.drop 1)).map fun n => (2, n + 2)
    else if digitB c then (if ((r.drop (runB digitB r)).head?.map letterB) = some true then none else some (2, runB digitB r + 1))
    else if slen c r.head? = 0 then none else some (3, slen c r.head?) := rfl
theorem slen_le (c : UInt8) (r : List UInt8) : slen c r.head? ≤ (c :: r).length := by
  unfold slen
  cases r with
  | nil => simp; split <;> (try split) <;> (try split) <;> (try split) <;> omega
  | cons d r => simp; split <;> (try split) <;> (try split) <;> (try split) <;> (try split) <;> omega
theorem cut1_le {s : List UInt8} {k : Int} {n : Nat} (h : cut1 s = some (k, n)) : 1 ≤ n ∧ n ≤ s.length ∧ (k = 1 ∨ k = 2 ∨ k = 3) := by
  match s, h with
  | c :: r, h =>
    rw [cut1_cons] at h
    split at h
    · split at h
      · injection h with h; injection h with h1 h2
        have := runB_le wordB r
        simp; omega
      · cases h
    · split at h
      · obtain ⟨m, hm, e⟩ := Option.map_eq_some_iff.1 h
        injection e with h1 h2
        have := qlen_le _ _ (Nat.le_refl _) _ hm
        simp; omega
      · split at h
        · obtain ⟨m, hm, e⟩ := Option.map_eq_some_iff.1 h
          injection e with h1 h2
          have := qlen_le _ _ (Nat.le_refl _) _ hm
          simp at this ⊢; omega
        · split at h
          · split at h
            · cases h
            · injection h with h; injection h with h1 h2
              have := runB_le digitB r
              simp; omega
          · split at h
            · cases h
            · injection h with h; injection h with h1 h2
              have := slen_le c r
              simp at this ⊢; omega

/-- What may stand behind a token in place of y. -/
def Apart (y x : List UInt8) : Prop := x.head? = y.head? ∨ x.head? = some 32 ∨ x.head? = some 10
theorem Apart.stops {p : UInt8 → Bool} {y x : List UInt8} (h : Apart y x) (h32 : p 32 = false) (h10 : p 10 = false) (hy : Stops p y) : Stops p x := by
  intro c hc
  rcases h with h | h | h
  · exact hy c (h ▸ hc)
  · rw [h] at hc; injection hc with hc; subst hc; exact h32
  · rw [h] at hc; injection hc with hc; subst hc; exact h10
theorem Apart.ne {c : UInt8} {y x : List UInt8} (h : Apart y x) (h32 : c ≠ 32) (h10 : c ≠ 10) (hy : y.head? ≠ some c) : x.head? ≠ some c := by
  rcases h with h | h | h
  · rw [h]; exact hy
  · rw [h]; simp; exact Ne.symm h32
  · rw [h]; simp; exact Ne.symm h10

theorem cut1_ext {t y x : List UInt8} {k : Int} (h : cut1 (t ++ y) = some (k, t.length)) (ha : Apart y x) : cut1 (t ++ x) = some (k, t.length) := by
  have hle := cut1_le h
  match t, h, hle with
  | [], _, hle => simp at hle
  | c :: t, h, hle =>
    clear hle
    simp only [List.cons_append, List.length_cons] at h ⊢
    rw [cut1_cons] at h ⊢
    split at h
    · rename_i hc
      obtain ⟨hl, hx⟩ := hc
      split at h
      · rename_i h30
        injection h with h; injection h with h1 h2
        have hr : runB wordB (t ++ y) = t.length := by omega
        obtain ⟨ht, hy⟩ := runB_app hr
        have hr' := runB_of ht (ha.stops (by decide) (by decide) hy)
        have hx' : ¬ (c = 120 ∧ (t ++ x).head? = some 39) := by
          rintro ⟨rfl, h39⟩
          refine hx ⟨rfl, ?_⟩
          cases t with
          | nil => exact absurd h39 (ha.ne (by decide) (by decide) (fun e => hx ⟨rfl, e⟩))
          | cons d t => simpa using h39
        rw [if_pos ⟨hl, hx'⟩, hr', if_pos (by omega)]
        simp [h1]
      · cases h
    · rename_i hc
      have hc' : ¬ (letterB c = true ∧ ¬ (c = 120 ∧ (t ++ x).head? = some 39)) := by
        rintro ⟨hl, hx⟩
        have h2 : c = 120 ∧ (t ++ y).head? = some 39 := by
          by_cases hh : c = 120 ∧ (t ++ y).head? = some 39
          · exact hh
          · exact absurd ⟨hl, hh⟩ hc
        obtain ⟨rfl, hh⟩ := h2
        refine hx ⟨rfl, ?_⟩
        cases t with
        | nil =>
          rw [if_neg (by decide), if_pos rfl] at h
          obtain ⟨m, hm, e⟩ := Option.map_eq_some_iff.1 h
          injection e with h1 h2
          simp at h2
        | cons d t => simpa using hh
      rw [if_neg hc']
      split at h
      · rename_i h39
        rw [if_pos h39]
        obtain ⟨m, hm, e⟩ := Option.map_eq_some_iff.1 h
        injection e with h1 h2
        have hm' : qlen (t ++ y) = some t.length := by rw [hm]; congr 1; omega
        have hy : y.head? ≠ some 39 := (qlen_ext _ t (Nat.le_refl _) y [] hm' (by simp)).1
        rw [(qlen_ext _ t (Nat.le_refl _) y x hm' (ha.ne (by decide) (by decide) hy)).2]
        simp [h1]
      · rename_i h39
        rw [if_neg h39]
        split at h
        · rename_i h120
          rw [if_pos h120]
          obtain ⟨m, hm, e⟩ := Option.map_eq_some_iff.1 h
          injection e with h1 h2
          have := qlen_le _ _ (Nat.le_refl _) _ hm
          cases t with
          | nil => simp at h2
          | cons d t =>
            simp only [List.cons_append, List.drop_succ_cons, List.drop_zero, List.length_cons] at hm h2 ⊢
            have hm' : qlen (t ++ y) = some t.length := by rw [hm]; congr 1; omega
            have hy : y.head? ≠ some 39 := (qlen_ext _ t (Nat.le_refl _) y [] hm' (by simp)).1
            rw [(qlen_ext _ t (Nat.le_refl _) y x hm' (ha.ne (by decide) (by decide) hy)).2]
            simp [h1]
        · rename_i h120
          rw [if_neg h120]
          split at h
          · rename_i hd
            rw [if_pos hd]
            split at h
            · cases h
            · rename_i hl
              injection h with h; injection h with h1 h2
              have hr : runB digitB (t ++ y) = t.length := by omega
              obtain ⟨ht, hy⟩ := runB_app hr
              have hr' := runB_of ht (ha.stops (by decide) (by decide) hy)
              rw [hr] at hl
              rw [hr', List.drop_left']
              · rw [List.drop_left' rfl] at hl
                have hl' : Stops letterB y := by
                  intro e he
                  rw [he] at hl
                  simpa using hl
                have hx := ha.stops (p := letterB) (by decide) (by decide) hl'
                rw [if_neg]
                · simp [h1]
                · intro e
                  obtain ⟨d, hd1, hd2⟩ := Option.map_eq_some_iff.1 e
                  rw [hx d hd1] at hd2
                  cases hd2
              · rfl
          · rename_i hd
            rw [if_neg hd]
            split at h
            · cases h
            · rename_i hs
              injection h with h; injection h with h1 h2
              cases t with
              | nil =>
                simp only [List.nil_append, List.length_nil] at h2 hs ⊢
                have e : slen c x.head? = 1 := by
                  rcases ha with ha | ha | ha
                  · rw [ha]; omega
                  · rw [ha]
                    unfold slen at h2 ⊢
                    split
                    · simp
                    · rename_i h60; rw [if_neg h60] at h2
                      split
                      · simp
                      · rename_i h62; rw [if_neg h62] at h2
                        split
                        · rename_i h124; rw [if_pos h124] at h2; split at h2 <;> omega
                        · rename_i h124; rw [if_neg h124] at h2; exact h2
                  · rw [ha]
                    unfold slen at h2 ⊢
                    split
                    · simp
                    · rename_i h60; rw [if_neg h60] at h2
                      split
                      · simp
                      · rename_i h62; rw [if_neg h62] at h2
                        split
                        · rename_i h124; rw [if_pos h124] at h2; split at h2 <;> omega
                        · rename_i h124; rw [if_neg h124] at h2; exact h2
                rw [e, if_neg (by omega)]
                simp [h1]
              | cons d t =>
                have e : slen c (d :: t ++ x).head? = slen c (d :: t ++ y).head? := rfl
                rw [e, if_neg hs, h2, ← h1]

/-- What is left behind blanks and remarks (true: within a remark). -/
def skipM : Bool → List UInt8 → List UInt8
  | _, [] => []
  | true, c :: r => if c = 10 then skipM false r else skipM true r
  | false, c :: r => if blankB c then skipM false r else if c = 45 ∧ r.head? = some 45 then skipM true r else c :: r

theorem skip_nil (b : Bool) : skipM b [] = [] := by cases b <;> rfl
theorem skip_t (c : UInt8) (r : List UInt8) : skipM true (c :: r) = if c = 10 then skipM false r else skipM true r := rfl
theorem skip_f (c : UInt8) (r : List UInt8) : skipM false (c :: r) = if blankB c then skipM false r else if c = 45 ∧ r.head? = some 45 then skipM true r else c :: r := rfl
theorem skipM_le : ∀ (b : Bool) (s : List UInt8), (skipM b s).length ≤ s.length := by
  intro b s
  induction s generalizing b with
  | nil => cases b <;> simp [skipM]
  | cons c r ih =>
    cases b
    · unfold skipM
      split
      · have := ih false; simp; omega
      · split
        · have := ih true; simp; omega
        · simp
    · unfold skipM
      split
      · have := ih false; simp; omega
      · have := ih true; simp; omega
theorem skipM_suffix : ∀ (b : Bool) (s : List UInt8), skipM b s = s.drop (s.length - (skipM b s).length) := by
  intro b s
  induction s generalizing b with
  | nil => cases b <;> simp [skipM]
  | cons c r ih =>
    have l1 := skipM_le true r
    have l0 := skipM_le false r
    cases b
    · unfold skipM
      split
      · rw [List.length_cons, show r.length + 1 - (skipM false r).length = (r.length - (skipM false r).length) + 1 by omega, List.drop_succ_cons]
        exact ih false
      · split
        · rw [List.length_cons, show r.length + 1 - (skipM true r).length = (r.length - (skipM true r).length) + 1 by omega, List.drop_succ_cons]
          exact ih true
        · simp
    · unfold skipM
      split
      · rw [List.length_cons, show r.length + 1 - (skipM false r).length = (r.length - (skipM false r).length) + 1 by omega, List.drop_succ_cons]
        exact ih false
      · rw [List.length_cons, show r.length + 1 - (skipM true r).length = (r.length - (skipM true r).length) + 1 by omega, List.drop_succ_cons]
        exact ih true
theorem skipM_blanks (s : List UInt8) : skipM false s = skipM false (s.drop (runB blankB s)) := by
  induction s with
  | nil => rfl
  | cons c r ih =>
    rw [runB_cons]
    split
    · rename_i hp
      rw [List.drop_succ_cons, ← ih]
      conv => lhs; unfold skipM
      rw [if_pos hp]
    · simp
theorem skipM_stays {s : List UInt8} (h : Stops blankB s) (h2 : ¬ (s.head? = some 45 ∧ s[1]? = some 45)) : skipM false s = s := by
  cases s with
  | nil => rfl
  | cons c r =>
    unfold skipM
    rw [if_neg (by rw [h c rfl]; decide), if_neg]
    rintro ⟨rfl, e⟩
    refine h2 ⟨rfl, ?_⟩
    cases r with
    | nil => simp at e
    | cons d r => simpa using e
theorem skipM_in_none {s : List UInt8} (h : ∀ c ∈ s, c ≠ 10) : skipM true s = [] := by
  induction s with
  | nil => rfl
  | cons c r ih => unfold skipM; rw [if_neg (h c (by simp))]; exact ih fun d hd => h d (by simp [hd])
theorem skipM_in {s : List UInt8} (n : Nat) (h : s[n]? = some 10) (hn : ∀ c ∈ s.take n, c ≠ 10) : skipM true s = skipM false (s.drop n) := by
  induction s generalizing n with
  | nil => simp at h
  | cons c r ih =>
    rw [skip_t]
    cases n with
    | zero =>
      simp at h; subst h
      rw [if_pos rfl, List.drop_zero, skip_f, if_pos (by decide)]
    | succ n =>
      rw [if_neg (hn c (by simp)), ih n (by simpa using h) (fun d hd => hn d (by simp [hd]))]
      simp
theorem skipM_remark {s : List UInt8} (h : s.head? = some 45 ∧ s[1]? = some 45) : skipM false s = skipM true s := by
  match s, h with
  | c :: d :: r, h =>
    simp at h
    obtain ⟨rfl, rfl⟩ := h
    simp [skipM, blankB]
  | [c], h => simp at h

/-- Blanks and remarks of a text that another follows behind a new line. -/
theorem skipM_line : ∀ (b : Bool) (s r : List UInt8), skipM b (s ++ 10 :: r) = if skipM b s = [] then skipM false r else skipM b s ++ 10 :: r := by
  intro b s r
  induction s generalizing b with
  | nil =>
    rw [skip_nil, if_pos rfl, List.nil_append]
    cases b
    · rw [skip_f, if_pos (by decide)]
    · rw [skip_t, if_pos rfl]
  | cons c s ih =>
    rw [List.cons_append]
    cases b
    · rw [skip_f, skip_f]
      by_cases hb : blankB c = true
      · rw [if_pos hb, if_pos hb]; exact ih false
      · rw [if_neg hb, if_neg hb]
        have e : (s ++ 10 :: r).head? = some 45 ↔ s.head? = some 45 := by cases s <;> simp
        by_cases h2 : c = 45 ∧ s.head? = some 45
        · rw [if_pos h2, if_pos (by rw [e]; exact h2)]; exact ih true
        · rw [if_neg h2, if_neg (by rw [e]; exact h2), if_neg (by simp)]
          simp
    · rw [skip_t, skip_t]
      by_cases h10 : c = 10
      · rw [if_pos h10, if_pos h10]; exact ih false
      · rw [if_neg h10, if_neg h10]; exact ih true

theorem cut1_starts {s : List UInt8} {k : Int} {n : Nat} (h : cut1 s = some (k, n)) : Stops blankB s := by
  intro c hc
  match s, h with
  | d :: r, h =>
    simp at hc; subst hc
    cases hb : blankB d with
    | false => rfl
    | true =>
      have hd : d = 32 ∨ d = 9 ∨ d = 10 ∨ d = 13 := by simpa [blankB, or_assoc] using hb
      rcases hd with rfl | rfl | rfl | rfl <;> simp [cut1, letterB, digitB, slen] at h
theorem cut1_45 {s : List UInt8} {k : Int} {n : Nat} (h : cut1 s = some (k, n)) (h0 : s.head? = some 45) : n = 1 := by
  match s, h, h0 with
  | c :: r, h, h0 =>
    simp at h0; subst h0
    simp [cut1, letterB, digitB, slen] at h
    omega

/-- A token. -/
structure Tok where
  k : Int
  pos : Nat
  t : List UInt8
  v : Int × Int × List UInt8

/-- A token's value. -/
def valOf (parse : List UInt8 → Option (Int × Int × List UInt8)) (k : Int) (t : List UInt8) : Option (Int × Int × List UInt8) := if k = 2 then parse t else some (0, 0, [])

/-- The token that a text begins with: its kind, how long it is, its value. -/
def one1 (parse : List UInt8 → Option (Int × Int × List UInt8)) (s : List UInt8) : Option (Int × Nat × (Int × Int × List UInt8)) :=
  (cut1 s).bind fun x => (valOf parse x.1 (s.take x.2)).map fun v => (x.1, x.2, v)

/-- The tokens of a text, of which s is left; N: how long it is. -/
def toksF (parse : List UInt8 → Option (Int × Int × List UInt8)) (N : Nat) : Nat → List UInt8 → Option (List Tok)
  | 0, _ => none
  | f + 1, s => if skipM false s = [] then some [] else
    (one1 parse (skipM false s)).bind fun x => (toksF parse N f ((skipM false s).drop x.2.1)).map fun l => ⟨x.1, N - (skipM false s).length, (skipM false s).take x.2.1, x.2.2⟩ :: l

variable {parse : List UInt8 → Option (Int × Int × List UInt8)}

theorem one1_le {s : List UInt8} {x : Int × Nat × (Int × Int × List UInt8)} (h : one1 parse s = some x) : 1 ≤ x.2.1 ∧ x.2.1 ≤ s.length ∧ (x.1 = 1 ∨ x.1 = 2 ∨ x.1 = 3) := by
  unfold one1 at h
  obtain ⟨⟨k, n⟩, h1, h2⟩ := Option.bind_eq_some_iff.1 h
  obtain ⟨v, hv, rfl⟩ := Option.map_eq_some_iff.1 h2
  exact cut1_le h1

/-- More rounds than there are bytes: no matter how many. -/
theorem toks_fuel (N : Nat) : ∀ (f g : Nat) (s : List UInt8), s.length < f → s.length < g → toksF parse N f s = toksF parse N g s := by
  intro f
  induction f with
  | zero => intro g s h; omega
  | succ f ih =>
    intro g s hf hg
    cases g with
    | zero => omega
    | succ g =>
      unfold toksF
      split
      · rfl
      · have hl := skipM_le false s
        cases ho : one1 parse (skipM false s) with
        | none => rfl
        | some x =>
          have := one1_le ho
          simp only [Option.bind_some]
          rw [ih g ((skipM false s).drop x.2.1) (by simp; omega) (by simp; omega)]

theorem skipM_not_remark {s : List UInt8} (h : skipM false s = s) : ¬ (s.head? = some 45 ∧ s[1]? = some 45) := by
  intro h2
  match s, h, h2 with
  | c :: d :: r, h, h2 =>
    simp at h2
    obtain ⟨rfl, rfl⟩ := h2
    have e : skipM false (45 :: 45 :: r) = skipM true (45 :: r) := by simp [skipM, blankB]
    rw [e] at h
    have := skipM_le true (45 :: r)
    rw [h] at this
    simp at this
    omega
  | [c], _, h2 => simp at h2
theorem skipM_idem : ∀ (b : Bool) (s : List UInt8), skipM false (skipM b s) = skipM b s := by
  intro b s
  induction s generalizing b with
  | nil => simp [skip_nil]
  | cons c r ih =>
    cases b
    · rw [skip_f]
      by_cases hb : blankB c = true
      · rw [if_pos hb]; exact ih false
      · rw [if_neg hb]
        by_cases h2 : c = 45 ∧ r.head? = some 45
        · rw [if_pos h2]; exact ih true
        · rw [if_neg h2, skip_f, if_neg hb, if_neg h2]
    · rw [skip_t]
      by_cases h10 : c = 10
      · rw [if_pos h10]; exact ih false
      · rw [if_neg h10]; exact ih true

theorem one1_ext {s : List UInt8} (hs : skipM false s = s) {x : Int × Nat × (Int × Int × List UInt8)} (h : one1 parse s = some x) {r : List UInt8} (ha : Apart (s.drop x.2.1) r) :
    one1 parse (s.take x.2.1 ++ r) = some x ∧ skipM false (s.take x.2.1 ++ r) = s.take x.2.1 ++ r := by
  have hle := one1_le h
  have hno := skipM_not_remark hs
  clear hs
  unfold one1 at h ⊢
  obtain ⟨⟨k, n⟩, h1, h2⟩ := Option.bind_eq_some_iff.1 h
  obtain ⟨v, hv, rfl⟩ := Option.map_eq_some_iff.1 h2
  simp only at h1 hv ha hle ⊢
  have hn : (s.take n).length = n := by simp; omega
  have h1' : cut1 (s.take n ++ s.drop n) = some (k, (s.take n).length) := by rw [List.take_append_drop, hn]; exact h1
  have h3 := cut1_ext h1' ha
  rw [hn] at h3
  refine ⟨?_, ?_⟩
  · rw [h3]
    simp only [Option.bind_some]
    rw [List.take_left' hn, hv]
    rfl
  · refine skipM_stays (cut1_starts h3) ?_
    rintro ⟨h45, h46⟩
    obtain rfl : n = 1 := cut1_45 h3 h45
    match s, hle with
    | c :: s, _ =>
      simp at h45
      subst h45
      have hr : r.head? = some 45 := by
        cases r with
        | nil => simp at h46
        | cons d r => simpa using h46
      refine absurd hr (ha.ne (by decide) (by decide) ?_)
      intro e
      refine hno ⟨rfl, ?_⟩
      cases s with
      | nil => simp at e
      | cons d s => simpa using e

/-- The tokens of a text, of which s is left. -/
def toks (parse : List UInt8 → Option (Int × Int × List UInt8)) (N : Nat) (s : List UInt8) : Option (List Tok) := toksF parse N (s.length + 1) s
theorem toks_eq (N : Nat) (s : List UInt8) : toks parse N s = if skipM false s = [] then some [] else
    (one1 parse (skipM false s)).bind fun x => (toks parse N ((skipM false s).drop x.2.1)).map fun l => ⟨x.1, N - (skipM false s).length, (skipM false s).take x.2.1, x.2.2⟩ :: l := by
  have hl := skipM_le false s
  conv => lhs; unfold toks toksF
  split
  · rfl
  · cases ho : one1 parse (skipM false s) with
    | none => rfl
    | some x =>
      have := one1_le ho
      simp only [Option.bind_some]
      rw [toks_fuel N s.length (((skipM false s).drop x.2.1).length + 1) _ (by simp; omega) (by omega)]
      rfl
theorem toks_nil (N : Nat) : toks parse N [] = some [] := by rw [toks_eq, skip_nil, if_pos rfl]
theorem toks_skip (N : Nat) (s r : List UInt8) (h : skipM false s = skipM false r) : toks parse N s = toks parse N r := by
  rw [toks_eq, toks_eq, h]

def Tok.bare (x : Tok) : Int × List UInt8 × (Int × Int × List UInt8) := (x.k, x.t, x.v)

/-- The texts of tokens, a blank behind each. -/
def blanked (l : List Tok) : List UInt8 := l.flatMap fun x => x.t ++ [32]

theorem toks_blanked (N M : Nat) : ∀ (n : Nat) (s : List UInt8), s.length ≤ n → ∀ l, toks parse N s = some l → ∃ l', toks parse M (blanked l) = some l' ∧ l'.map Tok.bare = l.map Tok.bare := by
  intro n
  induction n with
  | zero =>
    intro s hs l h
    obtain rfl : s = [] := by simpa using hs
    rw [toks_nil] at h
    injection h with h; subst h
    exact ⟨[], toks_nil M, rfl⟩
  | succ n ih =>
    intro s hs l h
    rw [toks_eq] at h
    have hl := skipM_le false s
    split at h
    · injection h with h; subst h
      exact ⟨[], toks_nil M, rfl⟩
    · obtain ⟨x, hx, h⟩ := Option.bind_eq_some_iff.1 h
      obtain ⟨l1, h1, rfl⟩ := Option.map_eq_some_iff.1 h
      have hle := one1_le hx
      obtain ⟨l1', h1', e⟩ := ih ((skipM false s).drop x.2.1) (by simp; omega) l1 h1
      have hsk := skipM_idem false s
      generalize skipM false s = s' at *
      obtain ⟨a1, a2⟩ := one1_ext hsk hx (r := 32 :: blanked l1) (.inr (.inl rfl))
      have hn : (s'.take x.2.1).length = x.2.1 := by simp; omega
      have hb : blanked (⟨x.1, N - s'.length, s'.take x.2.1, x.2.2⟩ :: l1) = s'.take x.2.1 ++ 32 :: blanked l1 := by simp [blanked]
      rw [hb]
      refine ⟨⟨x.1, M - (s'.take x.2.1 ++ 32 :: blanked l1).length, s'.take x.2.1, x.2.2⟩ :: l1', ?_, by simp [Tok.bare, e]⟩
      rw [toks_eq, a2, if_neg (by simp), a1]
      simp only [Option.bind_some]
      rw [List.drop_left' hn, List.take_left' hn, toks_skip M (32 :: blanked l1) (blanked l1) (by rw [skip_f, if_pos (by decide)]), h1']
      rfl

theorem toks_line (N M : Nat) (r : List UInt8) : ∀ (n : Nat) (s : List UInt8), s.length ≤ n → ∀ l, toks parse N s = some l → ∃ l', toks parse M (s ++ 10 :: r) = (toks parse M r).map (l' ++ ·) ∧ l'.map Tok.bare = l.map Tok.bare := by
  intro n
  induction n with
  | zero =>
    intro s hs l h
    obtain rfl : s = [] := by simpa using hs
    rw [toks_nil] at h
    injection h with h; subst h
    refine ⟨[], ?_, rfl⟩
    rw [toks_skip M ([] ++ 10 :: r) r (by rw [skipM_line, skip_nil, if_pos rfl])]
    simp
  | succ n ih =>
    intro s hs l h
    rw [toks_eq] at h
    have hl := skipM_le false s
    split at h
    · rename_i h0
      injection h with h; subst h
      refine ⟨[], ?_, rfl⟩
      rw [toks_skip M (s ++ 10 :: r) r (by rw [skipM_line, if_pos h0])]
      simp
    · rename_i h0
      obtain ⟨x, hx, h⟩ := Option.bind_eq_some_iff.1 h
      obtain ⟨l1, h1, rfl⟩ := Option.map_eq_some_iff.1 h
      have hle := one1_le hx
      obtain ⟨l1', h1', e⟩ := ih ((skipM false s).drop x.2.1) (by simp; omega) l1 h1
      have hsk := skipM_idem false s
      have hln := skipM_line false s r
      rw [if_neg h0] at hln
      generalize skipM false s = s' at *
      have hsp : s' ++ 10 :: r = s'.take x.2.1 ++ (s'.drop x.2.1 ++ 10 :: r) := by rw [← List.append_assoc, List.take_append_drop]
      obtain ⟨a1, a2⟩ := one1_ext hsk hx (r := s'.drop x.2.1 ++ 10 :: r) (by
        cases hd : s'.drop x.2.1 with
        | nil => exact .inr (.inr rfl)
        | cons d q => exact .inl rfl)
      have hn : (s'.take x.2.1).length = x.2.1 := by simp; omega
      refine ⟨⟨x.1, M - (s' ++ 10 :: r).length, s'.take x.2.1, x.2.2⟩ :: l1', ?_, by simp [Tok.bare, e]⟩
      rw [toks_eq, hln, if_neg (by simp), hsp, a1]
      simp only [Option.bind_some]
      rw [List.drop_left' hn, List.take_left' hn, h1']
      cases toks parse M r <;> simp

end Go.Proofs.YtepkfkfedmbmnaaGreatDoor

namespace Go.Proofs.YtepkfkfedmbmnaaGreatDoor
variable {parse : List UInt8 → Option (Int × Int × List UInt8)}

theorem toks_pos (N M : Nat) : ∀ (n : Nat) (s : List UInt8), s.length ≤ n → ∀ l, toks parse N s = some l → ∃ l', toks parse M s = some l' ∧ l'.map Tok.bare = l.map Tok.bare := by
  intro n
  induction n with
  | zero =>
    intro s hs l h
    obtain rfl : s = [] := by simpa using hs
    rw [toks_nil] at h
    injection h with h; subst h
    exact ⟨[], toks_nil M, rfl⟩
  | succ n ih =>
    intro s hs l h
    rw [toks_eq] at h
    have hl := skipM_le false s
    split at h
    · rename_i h0
      injection h with h; subst h
      exact ⟨[], by rw [toks_eq, if_pos h0], rfl⟩
    · rename_i h0
      obtain ⟨x, hx, h⟩ := Option.bind_eq_some_iff.1 h
      obtain ⟨l1, h1, rfl⟩ := Option.map_eq_some_iff.1 h
      have hle := one1_le hx
      obtain ⟨l1', h1', e⟩ := ih ((skipM false s).drop x.2.1) (by simp; omega) l1 h1
      refine ⟨⟨x.1, M - (skipM false s).length, (skipM false s).take x.2.1, x.2.2⟩ :: l1', ?_, by simp [Tok.bare, e]⟩
      rw [toks_eq, if_neg h0, hx]
      simp only [Option.bind_some]
      rw [h1']
      rfl

theorem blanked_length (N : Nat) : ∀ (n : Nat) (s : List UInt8), s.length ≤ n → ∀ l, toks parse N s = some l → (blanked l).length ≤ 2 * s.length ∧ l.length ≤ s.length := by
  intro n
  induction n with
  | zero =>
    intro s hs l h
    obtain rfl : s = [] := by simpa using hs
    rw [toks_nil] at h
    injection h with h; subst h
    simp [blanked]
  | succ n ih =>
    intro s hs l h
    rw [toks_eq] at h
    have hl := skipM_le false s
    split at h
    · injection h with h; subst h
      simp [blanked]
    · obtain ⟨x, hx, h⟩ := Option.bind_eq_some_iff.1 h
      obtain ⟨l1, h1, rfl⟩ := Option.map_eq_some_iff.1 h
      have hle := one1_le hx
      have := ih ((skipM false s).drop x.2.1) (by simp; omega) l1 h1
      simp only [List.length_drop] at this
      have e : (blanked (⟨x.1, N - (skipM false s).length, (skipM false s).take x.2.1, x.2.2⟩ :: l1)).length = min x.2.1 (skipM false s).length + 1 + (blanked l1).length := by simp [blanked]; omega
      refine ⟨by rw [e]; omega, by simp; omega⟩
theorem blanked_take {l : List Tok} {k : Nat} (h : k < l.length) : blanked (l.take (k + 1)) = blanked (l.take k) ++ (l[k].t ++ [32]) := by
  unfold blanked
  rw [List.take_add_one, List.getElem?_eq_getElem h, Option.toList_some, List.flatMap_append]
  simp only [List.flatMap_cons, List.flatMap_nil, List.append_nil]
theorem blanked_mono (l : List Tok) (k : Nat) : (blanked (l.take k)).length ≤ (blanked l).length := by
  have : blanked l = blanked (l.take k) ++ blanked (l.drop k) := by simp only [blanked, ← List.flatMap_append, List.take_append_drop]
  rw [this]; simp

end Go.Proofs.YtepkfkfedmbmnaaGreatDoor

