/- How many parts, how deep: the plain side of layer 16's guards. -/
import Derived.Test.YtepkfkfedmbmnaaGreatDoorMZ
namespace Go.Proofs.YtepkfkfedmbmnaaGreatDoor
open Go.RowKit
set_option maxRecDepth 100000

/-- Texts that are too long. -/
def bigB (v : Int × Int × List UInt8) (t n : List UInt8) : Bool := decide (1100 < v.2.2.length) || decide (100 < t.length) || decide (100 < n.length)
mutual
/-- How many parts, as far as one more than most. -/
def pV : Nat → Ex → Nat
  | most, .mk _ v t n _ args => if bigB v t n then most + 1 else pVs most 1 args
def pVs : Nat → Nat → List Ex → Nat
  | _, n, [] => n
  | most, n, y :: l => if n ≤ most then pVs most (n + pV (most - n) y) l else n
end
mutual
theorem pV_le : ∀ (most : Nat) (x : Ex), 1 ≤ pV most x ∧ pV most x ≤ most + 1
  | most, .mk _ v t n _ args => by
    simp only [pV]
    split
    · omega
    · exact pVs_le most 1 args (by omega) (by omega)
theorem pVs_le : ∀ (most n : Nat) (l : List Ex), 1 ≤ n → n ≤ most + 1 → 1 ≤ pVs most n l ∧ pVs most n l ≤ most + 1
  | most, n, [], h1, h2 => by simp only [pVs]; omega
  | most, n, y :: l, h1, h2 => by
    simp only [pVs]
    split
    · have := pV_le (most - n) y
      exact pVs_le most _ l (by omega) (by omega)
    · omega
end
/-- All texts in it are short. -/
inductive Short : Ex → Prop where
  | mk (k : Int) (v : Int × Int × List UInt8) (t n : List UInt8) (o : Int) (args : List Ex) (h : bigB v t n = false) (ha : ∀ y, y ∈ args → Short y) : Short (.mk k v t n o args)
mutual
theorem pV_parts : ∀ (most : Nat) (x : Ex), pV most x ≤ most → partsE x = pV most x ∧ Short x
  | most, .mk k v t n o args, h => by
    simp only [pV] at h ⊢
    split at h
    · omega
    · rename_i hb
      rw [if_neg hb]
      obtain ⟨h1, h2⟩ := pVs_parts most 1 args h
      simp only [partsE]
      exact ⟨h1, .mk k v t n o args (by simpa using hb) h2⟩
theorem pVs_parts : ∀ (most n : Nat) (l : List Ex), pVs most n l ≤ most → n + partssE l = pVs most n l ∧ ∀ y, y ∈ l → Short y
  | most, n, [], h => by simp [pVs, partssE]
  | most, n, y :: l, h => by
    simp only [pVs] at h ⊢
    split at h
    · rename_i hn
      rw [if_pos hn]
      obtain ⟨h1, h2⟩ := pVs_parts most _ l h
      have hm : pV (most - n) y ≤ most - n := by
        have := (pV_le (most - n) y).1
        omega
      obtain ⟨h3, h4⟩ := pV_parts (most - n) y hm
      simp only [partssE]
      refine ⟨by omega, fun z hz => ?_⟩
      rcases List.mem_cons.1 hz with rfl | hz
      · exact h4
      · exact h2 z hz
    · rename_i hn
      omega
end
theorem pVs_stop {most n : Nat} (h : most < n) (l : List Ex) : pVs most n l = n := by
  cases l with
  | nil => simp only [pVs]
  | cons y l => simp only [pVs]; rw [if_neg (by omega)]
theorem pVs_drop {most n : Nat} {l : List Ex} {j : Nat} (hj : j < l.length) (hn : n ≤ most) : pVs most n (l.drop j) = pVs most (n + pV (most - n) l[j]) (l.drop (j + 1)) := by
  rw [List.drop_eq_getElem_cons hj]
  simp only [pVs]
  rw [if_pos hn]
theorem Short.lens {x : Ex} (h : Short x) : Lens x := by
  induction h with
  | mk k v t n o args h _ ih =>
    simp only [bigB, Bool.or_eq_false_iff, decide_eq_false_iff_not] at h
    exact .mk k v t n o args (by omega) (by omega) ih

/-! A text's length. -/
def sumL (l : List (List UInt8)) : Nat := (l.map List.length).sum
theorem join_sum (s : List UInt8) : ∀ l : List (List UInt8), (joinB s l).length ≤ sumL l + l.length * s.length
  | [] => by simp [joinB, sumL]
  | [x] => by simp [joinB, sumL]
  | x :: y :: r => by
    have h := join_sum s (y :: r)
    rw [show joinB s (x :: y :: r) = x ++ s ++ joinB s (y :: r) from rfl]
    simp only [List.length_append, sumL, List.map_cons, List.sum_cons, List.length_cons] at *
    have e := Nat.succ_mul (r.length + 1) s.length
    rw [Nat.succ_eq_add_one] at e
    omega
theorem getD_sum (l : List (List UInt8)) : (l.getD 0 []).length + (l.getD 1 []).length ≤ sumL l := by
  match l with
  | [] => simp [sumL]
  | [a] => simp [sumL]
  | a :: b :: r => simp [sumL]
theorem tell_sum {k : Int} {v : Int × Int × List UInt8} {t n : List UInt8} {o : Int} {args : List Ex} (hb : bigB v t n = false) (hr : rightF k v t n o args = true) (hi : I64 v.2.1) (l : List (List UInt8)) : (tellT k v t n o l).length ≤ 10100 + sumL l + l.length * 2 := by
  simp only [bigB, Bool.or_eq_false_iff, decide_eq_false_iff_not] at hb
  have ho := op_len o
  have hg := getD_sum l
  have hj := join_sum [44, 32] l
  simp only [tellT, callT, nestT]
  split
  · rename_i hk
    subst hk
    have hc : chk v.1 v.2.1 v.2.2 = 0 := by simp only [rightF, if_pos, Bool.and_eq_true, beq_iff_eq] at hr; exact hr.1.2
    have := lit_len hc hi
    omega
  split
  · split
    · omega
    · simp only [List.length_append, List.length_cons, List.length_nil]; omega
  split
  · simp only [List.length_append, List.length_cons, List.length_nil, sCoalesce] at *; omega
  split
  · split
    · simp [joinB]; omega
    · simp only [List.length_append, List.length_cons, List.length_nil] at *; omega
  split
  · simp only [joinB, List.length_append, List.length_cons, List.length_nil]; omega
  split
  · simp only [List.length_append, List.length_cons, List.length_nil] at *; omega
  split
  · simp only [joinB, List.length_append, List.length_cons, List.length_nil]; omega
  · simp only [joinB, List.length_append, List.length_cons, List.length_nil]; omega
mutual
theorem text_sum : ∀ x : Ex, Short x → Fits x → checkB x = true → (textE x).length + 2 ≤ partsE x * 10104
  | .mk k v t n o args, h, hf, hc => by
    have hs : bigB v t n = false ∧ ∀ y, y ∈ args → Short y := by cases h with | mk _ _ _ _ _ _ h1 h2 => exact ⟨h1, h2⟩
    have hi : I64 v.2.1 ∧ ∀ y, y ∈ args → Fits y := by cases hf with | mk _ _ _ _ _ _ h1 h2 => exact ⟨h1, h2⟩
    have hr : rightF k v t n o args = true := checkB_right hc
    have h1 := texts_sum args hs.2 hi.2 (fun y hy => checkB_args (x := .mk k v t n o args) hc hy)
    have h2 := tell_sum hs.1 hr hi.1 (textsE args)
    have h3 : (textsE args).length = args.length := by rw [textsE_map]; simp
    simp only [textE, partsE]
    omega
theorem texts_sum : ∀ l : List Ex, (∀ y, y ∈ l → Short y) → (∀ y, y ∈ l → Fits y) → (∀ y, y ∈ l → checkB y = true) → sumL (textsE l) + l.length * 2 ≤ partssE l * 10104
  | [], _, _, _ => by simp [textsE, sumL, partssE]
  | x :: r, h, hf, hc => by
    have h1 := text_sum x (h x (by simp)) (hf x (by simp)) (hc x (by simp))
    have h2 := texts_sum r (fun y hy => h y (by simp [hy])) (fun y hy => hf y (by simp [hy])) (fun y hy => hc y (by simp [hy]))
    simp only [textsE, sumL, List.map_cons, List.sum_cons, partssE, List.length_cons] at *
    omega
end
end Go.Proofs.YtepkfkfedmbmnaaGreatDoor
