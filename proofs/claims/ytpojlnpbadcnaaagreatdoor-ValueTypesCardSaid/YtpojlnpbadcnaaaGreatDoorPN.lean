/- Plain facts on numerals: their digits spell the number, and ParseInt reads back what Itoa writes. -/
import Derived.Lib.ParseIntB
import Derived.Lib.ItoaMem
import Derived.Lib.ItoaLen
namespace Go.Proofs.YtpojlnpbadcnaaaGreatDoor
set_option maxRecDepth 100000

/-- What the digits spell behind a. -/
def dvA (a : Nat) (l : List UInt8) : Nat := l.foldl (fun a c => a * 10 + (c.toNat - 48)) a
def dv (l : List UInt8) : Nat := dvA 0 l
def isDig (c : UInt8) : Prop := 48 ≤ c.toNat ∧ c.toNat ≤ 57

theorem dvA_le (l : List UInt8) : ∀ a, a ≤ dvA a l := by
  induction l with
  | nil => intro a; exact Nat.le_refl _
  | cons c r ih => intro a; have := ih (a * 10 + (c.toNat - 48)); show a ≤ dvA (a * 10 + (c.toNat - 48)) r; omega
theorem dvA_append (a : Nat) (l m : List UInt8) : dvA a (l ++ m) = dvA (dvA a l) m := by simp [dvA]
theorem dv_snoc (l : List UInt8) (c : UInt8) : dv (l ++ [c]) = dv l * 10 + (c.toNat - 48) := by simp [dv, dvA]
theorem dv_take_le (l : List UInt8) (k : Nat) : dv (l.take k) ≤ dv l := by
  conv => rhs; rw [← List.take_append_drop k l]
  unfold dv; rw [dvA_append]; exact dvA_le _ _
theorem dig_nat (d : Nat) (h : d < 10) : (UInt8.ofNat (48 + d)).toNat = 48 + d := by
  have : ∀ m : Fin 10, (UInt8.ofNat (48 + m.val)).toNat = 48 + m.val := by decide
  exact this ⟨d, h⟩
theorem dv_dec (u : Nat) : dv (Lib.decDigits u) = u := by
  induction u using Nat.strongRecOn with
  | _ u ih =>
    by_cases h : u < 10
    · rw [Lib.decDigits_one h]; show 0 * 10 + ((UInt8.ofNat (48 + u)).toNat - 48) = u; rw [dig_nat u h]; omega
    · rw [Lib.decDigits, dif_neg h, dv_snoc, ih (u / 10) (by omega), dig_nat _ (by omega)]; omega
theorem dec_dig (u : Nat) : ∀ c ∈ Lib.decDigits u, isDig c := by
  induction u using Nat.strongRecOn with
  | _ u ih =>
    by_cases h : u < 10
    · rw [Lib.decDigits_one h]; intro c hc; have hc := List.mem_singleton.1 hc
      unfold isDig; rw [hc, dig_nat u h]; omega
    · rw [Lib.decDigits, dif_neg h]
      intro c hc
      rcases List.mem_append.1 hc with hc | hc
      · exact ih (u / 10) (by omega) c hc
      · have hc := List.mem_singleton.1 hc
        unfold isDig; rw [hc, dig_nat _ (by omega)]; omega
theorem dec_ne (u : Nat) : Lib.decDigits u ≠ [] := by
  intro h; have := Lib.decDigits_length u; rw [h] at this; have := Lib.nDigits_pos u; simp at *; omega
theorem nDigits_le19 : ∀ (k u : Nat), u < 10 ^ (k + 1) → Lib.nDigits u ≤ k + 1
  | 0, u, h => by rw [Lib.nDigits_small (by simpa using h)]; exact Nat.le_refl _
  | k + 1, u, h => by
    by_cases hu : u < 10
    · rw [Lib.nDigits_small hu]; omega
    · rw [Lib.nDigits_big hu]
      have := nDigits_le19 k (u / 10) (by rw [Nat.pow_succ] at h; omega)
      omega
theorem dec_len19 (u : Nat) (h : u ≤ 9223372036854775808) : (Lib.decDigits u).length ≤ 19 := by
  rw [Lib.decDigits_length]; exact nDigits_le19 18 u (by simp; omega)
theorem dec_len1 (u : Nat) : 1 ≤ (Lib.decDigits u).length := by rw [Lib.decDigits_length]; exact Lib.nDigits_pos u

theorem uintM_ok : ∀ (l : List UInt8) (a : Nat), (∀ c ∈ l, isDig c) → dvA a l ≤ 18446744073709551615 → Lib.parseUintM 18446744073709551615 a l = .ok (dvA a l)
  | [], a, _, _ => rfl
  | c :: r, a, hd, hm => by
    have hc := hd c (by simp)
    have hm' : dvA (a * 10 + (c.toNat - 48)) r ≤ 18446744073709551615 := hm
    have := dvA_le r (a * 10 + (c.toNat - 48))
    unfold isDig at hc
    unfold Lib.parseUintM
    rw [if_pos hc, if_neg (by omega), if_neg (by omega), uintM_ok r _ (fun d h => hd d (by simp [h])) hm']
    rfl

theorem parse_pos (u : Nat) (h : u ≤ 9223372036854775807) : Lib.parseIntB 64 (Lib.decDigits u) = .ok (u : Int) := by
  have hM := uintM_ok (Lib.decDigits u) 0 (dec_dig u) (by show dv _ ≤ _; rw [dv_dec]; omega)
  have hv := dv_dec u
  have hn := dec_ne u
  have hdig := dec_dig u
  unfold dv at hv
  rw [hv] at hM
  generalize Lib.decDigits u = l at *
  match l, hn with
  | c :: r, _ =>
    have hc := hdig c (by simp)
    unfold isDig at hc
    unfold Lib.parseIntB
    simp only []
    rw [if_neg (by omega)]
    unfold Lib.parseUintB
    rw [if_neg (by simp)]
    rw [show (2 : Nat) ^ 64 - 1 = 18446744073709551615 from rfl, hM]
    simp only []
    rw [if_neg (by intro hh; have := hh.2; simp at this; omega), if_neg (by intro hh; omega), if_neg (by omega)]
theorem parse_neg (u : Nat) (h : u ≤ 9223372036854775808) : Lib.parseIntB 64 (45 :: Lib.decDigits u) = .ok (-(u : Int)) := by
  have hM := uintM_ok (Lib.decDigits u) 0 (dec_dig u) (by show dv _ ≤ _; rw [dv_dec]; omega)
  have hv := dv_dec u
  have hn := dec_ne u
  unfold dv at hv
  rw [hv] at hM
  generalize Lib.decDigits u = l at *
  unfold Lib.parseIntB
  simp only []
  rw [if_pos (show UInt8.toNat 45 = 43 ∨ UInt8.toNat 45 = 45 from Or.inr rfl)]
  unfold Lib.parseUintB
  rw [if_neg hn]
  rw [show (2 : Nat) ^ 64 - 1 = 18446744073709551615 from rfl, hM]
  simp only []
  rw [if_neg (by intro hh; exact hh.1 rfl), if_neg (by intro hh; have := hh.2; simp at this; omega), if_pos (show UInt8.toNat 45 = 45 from rfl)]
theorem parse_itoa (n : Int) (h0 : -9223372036854775808 ≤ n) (h1 : n ≤ 9223372036854775807) : Lib.parseIntB 64 (Lib.itoa n) = .ok n := by
  by_cases h : n < 0
  · obtain ⟨u, rfl⟩ : ∃ u : Nat, n = -(u : Int) := ⟨n.natAbs, by omega⟩
    rw [Lib.itoa_neg u (by omega)]; exact parse_neg u (by omega)
  · obtain ⟨u, rfl⟩ : ∃ u : Nat, n = (u : Int) := ⟨n.toNat, by omega⟩
    rw [Lib.itoa_nonneg u]; exact parse_pos u (by omega)

/-- The digits of a text that may begin with a minus. -/
def digs (s : List UInt8) : List UInt8 := match s with
  | [] => []
  | c :: r => if c = 45 then r else c :: r
theorem not_dig45 : ¬ isDig 45 := by unfold isDig; decide
theorem digs_itoa (n : Int) : digs (Lib.itoa n) = Lib.decDigits n.natAbs := by
  by_cases h : n < 0
  · unfold Lib.itoa; rw [if_pos h]; simp [digs]
  · unfold Lib.itoa; rw [if_neg h]
    have hn := dec_ne n.toNat
    have hd := dec_dig n.toNat
    rw [show n.natAbs = n.toNat by omega]
    generalize Lib.decDigits n.toNat = l at *
    match l, hn with
    | c :: r, _ =>
      unfold digs
      simp only []
      rw [if_neg]
      intro e; subst e; exact not_dig45 (hd 45 (by simp))
theorem neg_itoa (n : Int) : (Lib.itoa n)[0]? = some 45 ↔ n < 0 := by
  by_cases h : n < 0
  · unfold Lib.itoa; rw [if_pos h]; simp [h]
  · unfold Lib.itoa; rw [if_neg h]
    have hn := dec_ne n.toNat
    have hd := dec_dig n.toNat
    generalize Lib.decDigits n.toNat = l at *
    match l, hn with
    | c :: r, _ =>
      simp [h]
      intro e; subst e; exact not_dig45 (hd 45 (by simp))

end Go.Proofs.YtpojlnpbadcnaaaGreatDoor
