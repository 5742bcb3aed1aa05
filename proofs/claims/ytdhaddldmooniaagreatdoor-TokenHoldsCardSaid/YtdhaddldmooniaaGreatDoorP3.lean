/- Plain facts on hexadecimal digits. -/
import Derived.Test.YtdhaddldmooniaaGreatDoorP2
import Derived.Lib.Bytealg
import Derived.Lib.SlTrimSet
import Derived.Laws.Entries
namespace Go.Proofs.YtdhaddldmooniaaGreatDoor

def digitsL : List UInt8 := [48, 49, 50, 51, 52, 53, 54, 55, 56, 57, 97, 98, 99, 100, 101, 102]
/-- A digit's number. -/
def hv (c : UInt8) : Int := Lib.indexByte digitsL c
def isHex (c : UInt8) : Bool := digitsL.contains c
def unhex : List UInt8 → List UInt8
  | a :: b :: r => UInt8.ofNat ((16 * hv a + hv b).toNat) :: unhex r
  | _ => []

theorem unhex_length (l : List UInt8) : (unhex l).length ≤ l.length := by
  match l with
  | [] => simp [unhex]
  | [_] => simp [unhex]
  | a :: b :: r => have := unhex_length r; simp [unhex]; omega
theorem unhex_append : ∀ (p q : List UInt8), p.length % 2 = 0 → unhex (p ++ q) = unhex p ++ unhex q
  | [], q, _ => by simp [unhex]
  | [_], _, h => by simp at h
  | a :: b :: r, q, h => by
    have := unhex_append r q (by simp at h; omega)
    simp [unhex, this]
theorem hv_range : ∀ c : UInt8, isHex c = true → 0 ≤ hv c ∧ hv c < 16 := by
  intro c hc
  have : c ∈ digitsL := by simpa [isHex] using hc
  simp only [digitsL, List.mem_cons, List.mem_nil_iff, or_false] at this
  rcases this with rfl | rfl | rfl | rfl | rfl | rfl | rfl | rfl | rfl | rfl | rfl | rfl | rfl | rfl | rfl | rfl <;> decide

theorem trimS_nil_iff (l cs : List UInt8) : Lib.trimS l cs = [] ↔ ∀ c ∈ l, cs.contains c = true := by
  have left : ∀ l : List UInt8, Lib.trimLeftS l cs = [] ↔ ∀ c ∈ l, cs.contains c = true := by
    intro l
    unfold Lib.trimLeftS
    induction l with
    | nil => simp
    | cons a r ih =>
      by_cases h : cs.contains a = true
      · rw [List.dropWhile_cons_of_pos (by simpa using h), ih]
        constructor
        · intro hr c hc
          rcases List.mem_cons.1 hc with rfl | hc
          · exact h
          · exact hr c hc
        · intro hr c hc; exact hr c (List.mem_cons_of_mem _ hc)
      · rw [List.dropWhile_cons_of_neg (by simpa using h)]
        constructor
        · intro hr; cases hr
        · intro hr; exact absurd (hr a (List.mem_cons_self ..)) h
  have tw : ∀ (l : List UInt8) (c : UInt8), c ∈ l.takeWhile (cs.contains ·) → cs.contains c = true := by
    intro l
    induction l with
    | nil => intro c hc; cases hc
    | cons a r ih =>
      intro c hc
      by_cases h : cs.contains a = true
      · rw [List.takeWhile_cons_of_pos (by simpa using h)] at hc
        rcases List.mem_cons.1 hc with rfl | hc
        · exact h
        · exact ih c hc
      · rw [List.takeWhile_cons_of_neg (by simpa using h)] at hc; cases hc
  unfold Lib.trimS
  rw [left]
  unfold Lib.trimRightS
  constructor
  · intro h c hc
    have hc' : c ∈ l.reverse.takeWhile (cs.contains ·) ++ l.reverse.dropWhile (cs.contains ·) := by rw [List.takeWhile_append_dropWhile]; exact List.mem_reverse.2 hc
    rcases List.mem_append.1 hc' with h1 | h1
    · exact tw _ c h1
    · exact h c (List.mem_reverse.2 h1)
  · intro h c hc
    refine h c ?_
    have := List.mem_reverse.1 hc
    exact List.mem_reverse.1 ((List.dropWhile_sublist _).mem this)

theorem or_digits : ∀ a b : Fin 16, bits BinOp.or IntKind.i64 ((a.val : Int) * 16) (b.val : Int) = (a.val : Int) * 16 + (b.val : Int) := by decide

theorem unhex_take (l : List UInt8) (m : Nat) (h : m % 2 = 0) (hm : m < l.length) (hm1 : m + 1 < l.length) :
    unhex (l.take (m + 2)) = unhex (l.take m) ++ [UInt8.ofNat ((16 * hv l[m] + hv l[m + 1]).toNat)] := by
  have e : l.take (m + 2) = l.take m ++ [l[m], l[m + 1]] := by
    have e1 := List.take_add_one (l := l) (i := m + 1)
    have e2 := List.take_add_one (l := l) (i := m)
    rw [List.getElem?_eq_getElem hm1] at e1
    rw [List.getElem?_eq_getElem hm] at e2
    rw [show m + 2 = (m + 1) + 1 from rfl, e1, e2, List.append_assoc]
    rfl
  rw [e, unhex_append _ _ (by simp; omega)]
  rfl

end Go.Proofs.YtdhaddldmooniaaGreatDoor
