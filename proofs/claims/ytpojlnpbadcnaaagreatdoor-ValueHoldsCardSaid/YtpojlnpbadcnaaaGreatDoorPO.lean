/- The order of values is one. -/
import Derived.Test.YtpojlnpbadcnaaaGreatDoorV3
namespace Go.Proofs.YtpojlnpbadcnaaaGreatDoor
theorem u8_eq {a b : UInt8} (h : a.toNat = b.toNat) : a = b := UInt8.toNat_inj.1 h
theorem less_irr : ∀ (a : List UInt8), Op.bytesLess a a = false
  | [] => by simp [Op.bytesLess]
  | c :: r => by simp [Op.bytesLess, less_irr r]
theorem less_asym : ∀ (a b : List UInt8), Op.bytesLess a b = true → Op.bytesLess b a = false
  | [], [], h => by simp [Op.bytesLess] at h
  | [], _ :: _, _ => by simp [Op.bytesLess]
  | _ :: _, [], h => by simp [Op.bytesLess] at h
  | c :: r, d :: s, h => by
    have ih := less_asym r s
    simp only [Op.bytesLess, Bool.or_eq_true, decide_eq_true_eq, Bool.and_eq_true, beq_iff_eq, UInt8.lt_iff_toNat_lt] at h
    cases hx : Op.bytesLess (d :: s) (c :: r) with
    | false => rfl
    | true =>
      simp only [Op.bytesLess, Bool.or_eq_true, decide_eq_true_eq, Bool.and_eq_true, beq_iff_eq, UInt8.lt_iff_toNat_lt] at hx
      rcases h with h | ⟨rfl, h⟩
      · rcases hx with hx | ⟨rfl, _⟩ <;> omega
      · rcases hx with hx | ⟨_, hx⟩
        · omega
        · rw [ih h] at hx; cases hx
theorem less_total : ∀ (a b : List UInt8), Op.bytesLess a b = false → a ≠ b → Op.bytesLess b a = true
  | [], [], _, h => absurd rfl h
  | [], _ :: _, h, _ => by simp [Op.bytesLess] at h
  | _ :: _, [], _, _ => by simp [Op.bytesLess]
  | c :: r, d :: s, h, hn => by
    have ih := less_total r s
    simp only [Op.bytesLess, Bool.or_eq_true, decide_eq_true_eq, Bool.and_eq_true, beq_iff_eq, UInt8.lt_iff_toNat_lt, Bool.or_eq_false_iff, decide_eq_false_iff_not, Bool.and_eq_false_iff] at h ⊢
    by_cases e : c = d
    · subst e
      right
      refine ⟨rfl, ih ?_ (fun e => hn (by rw [e]))⟩
      rcases h.2 with h2 | h2
      · simp at h2
      · exact h2
    · left
      have : c.toNat ≠ d.toNat := fun x => e (u8_eq x)
      have := h.1
      omega
theorem less_trans : ∀ (a b c : List UInt8), Op.bytesLess a b = true → Op.bytesLess b c = true → Op.bytesLess a c = true
  | [], [], _, h, _ => by simp [Op.bytesLess] at h
  | [], _ :: _, [], _, h => by simp [Op.bytesLess] at h
  | [], _ :: _, _ :: _, _, _ => by simp [Op.bytesLess]
  | _ :: _, [], _, h, _ => by simp [Op.bytesLess] at h
  | _ :: _, _ :: _, [], _, h => by simp [Op.bytesLess] at h
  | x :: a, y :: b, z :: c, h, h' => by
    have ih := less_trans a b c
    simp only [Op.bytesLess, Bool.or_eq_true, decide_eq_true_eq, Bool.and_eq_true, beq_iff_eq, UInt8.lt_iff_toNat_lt] at h h' ⊢
    rcases h with h | ⟨rfl, h⟩
    · rcases h' with h' | ⟨rfl, _⟩
      · left; omega
      · left; omega
    · rcases h' with h' | ⟨rfl, h'⟩
      · left; omega
      · right; exact ⟨rfl, ih h h'⟩

theorem cmpI_neg (a b : Int) : cmpI a b = -cmpI b a := by unfold cmpI; split <;> split <;> (try split) <;> omega
theorem cmpI_zero (a b : Int) : cmpI a b = 0 ↔ a = b := by unfold cmpI; split <;> (try split) <;> omega
theorem cmpI_cases (a b : Int) : (cmpI a b = -1 ∧ a < b) ∨ (cmpI a b = 0 ∧ a = b) ∨ (cmpI a b = 1 ∧ b < a) := by unfold cmpI; split <;> (try split) <;> omega
theorem cmpS_cases (a b : List UInt8) : (cmpS a b = -1 ∧ Op.bytesLess a b = true) ∨ (cmpS a b = 0 ∧ a = b) ∨ (cmpS a b = 1 ∧ Op.bytesLess b a = true) := by
  unfold cmpS
  cases h : Op.bytesLess a b with
  | true => simp
  | false =>
    by_cases e : a = b
    · simp [e]
    · simp [e, less_total a b h e]
theorem cmpS_neg (a b : List UInt8) : cmpS a b = -cmpS b a := by
  rcases cmpS_cases a b with ⟨h, h1⟩ | ⟨h, h1⟩ | ⟨h, h1⟩ <;> rcases cmpS_cases b a with ⟨g, g1⟩ | ⟨g, g1⟩ | ⟨g, g1⟩
  · rw [less_asym a b h1] at g1; cases g1
  · subst g1; rw [less_irr] at h1; cases h1
  · omega
  · subst h1; rw [less_irr] at g1; cases g1
  · omega
  · subst h1; rw [less_irr] at g1; cases g1
  · omega
  · subst g1; rw [less_irr] at h1; cases h1
  · rw [less_asym b a h1] at g1; cases g1
theorem cmpV_neg (k n : Int) (l : List UInt8) (k' n' : Int) (l' : List UInt8) : cmpV k n l k' n' l' = -cmpV k' n' l' k n l := by
  unfold cmpV first3
  rw [cmpI_neg k k', cmpI_neg n n', cmpS_neg l l']
  split <;> split <;> (try split) <;> (try split) <;> omega
theorem cmpV_zero (k n : Int) (l : List UInt8) (k' n' : Int) (l' : List UInt8) : cmpV k n l k' n' l' = 0 ↔ k = k' ∧ n = n' ∧ l = l' := by
  unfold cmpV first3
  have h1 := cmpI_zero k k'
  have h2 := cmpI_zero n n'
  have h3 : cmpS l l' = 0 ↔ l = l' := by
    rcases cmpS_cases l l' with ⟨h, g⟩ | ⟨h, g⟩ | ⟨h, g⟩
    · rw [h]; constructor
      · intro e; cases e
      · intro e; subst e; rw [less_irr] at g; cases g
    · exact ⟨fun _ => g, fun _ => h⟩
    · rw [h]; constructor
      · intro e; cases e
      · intro e; subst e; rw [less_irr] at g; cases g
  rw [← h1, ← h2, ← h3]
  split <;> (try split) <;> omega
theorem cmpS_trans (a b c : List UInt8) (h : cmpS a b ≤ 0) (h' : cmpS b c ≤ 0) : cmpS a c ≤ 0 ∧ (cmpS a c = 0 → cmpS a b = 0 ∧ cmpS b c = 0) := by
  rcases cmpS_cases a b with ⟨e, g⟩ | ⟨e, g⟩ | ⟨e, g⟩
  · rcases cmpS_cases b c with ⟨e', g'⟩ | ⟨e', g'⟩ | ⟨e', g'⟩
    · have : cmpS a c = -1 := by unfold cmpS; rw [if_pos (less_trans a b c g g')]
      rw [this]; exact ⟨by omega, fun x => by omega⟩
    · subst g'; rw [e]; exact ⟨by omega, fun x => by omega⟩
    · omega
  · subst g
    exact ⟨h', fun x => ⟨e, x⟩⟩
  · omega
theorem cmpV_trans (k n : Int) (l : List UInt8) (k' n' : Int) (l' : List UInt8) (k2 n2 : Int) (l2 : List UInt8) (h : cmpV k n l k' n' l' ≤ 0) (h' : cmpV k' n' l' k2 n2 l2 ≤ 0) : cmpV k n l k2 n2 l2 ≤ 0 := by
  unfold cmpV first3 at h h' ⊢
  have a1 := cmpI_cases k k'
  have a2 := cmpI_cases k' k2
  have a3 := cmpI_cases k k2
  have b1 := cmpI_cases n n'
  have b2 := cmpI_cases n' n2
  have b3 := cmpI_cases n n2
  have c1 := cmpS_trans l l' l2
  generalize cmpI k k' = x1 at *
  generalize cmpI k' k2 = x2 at *
  generalize cmpI k k2 = x3 at *
  generalize cmpI n n' = y1 at *
  generalize cmpI n' n2 = y2 at *
  generalize cmpI n n2 = y3 at *
  generalize cmpS l l' = z1 at *
  generalize cmpS l' l2 = z2 at *
  generalize cmpS l l2 = z3 at *
  by_cases g1 : x1 = 0 <;> by_cases g2 : x2 = 0 <;> by_cases g3 : y1 = 0 <;> by_cases g4 : y2 = 0 <;> simp [g1, g2, g3, g4] at h h' <;> by_cases g5 : x3 = 0 <;> by_cases g6 : y3 = 0 <;> simp [g5, g6] <;> omega

end Go.Proofs.YtpojlnpbadcnaaaGreatDoor
