/- More on tokens in plain words. -/
import Derived.Test.YtdhaddldmooniaaGreatDoorPT
namespace Go.Proofs.YtdhaddldmooniaaGreatDoor
variable {parse : List UInt8 → Option (Int × Int × List UInt8)}

theorem toks_pos (N M : Nat) : ∀ (n : Nat) (s : List UInt8), s.length ≤ n → ∀ l, toks parse N s = some l → ∃ l', toks parse M s = some l' ∧ l'.map Tok.bare = l.map Tok.bare := by
  intro n
  induction n with
  | zero =>
    intro s hs l h
    obtain rfl : s = [] := by simpa using hs
    rw [toks_nil] at h
    injection h with h; subst h
    exact ⟨[], toks_nil M, rfl⟩
  | succ n ih =>
    intro s hs l h
    rw [toks_eq] at h
    have hl := skipM_le false s
    split at h
    · rename_i h0
      injection h with h; subst h
      exact ⟨[], by rw [toks_eq, if_pos h0], rfl⟩
    · rename_i h0
      obtain ⟨x, hx, h⟩ := Option.bind_eq_some_iff.1 h
      obtain ⟨l1, h1, rfl⟩ := Option.map_eq_some_iff.1 h
      have hle := one1_le hx
      obtain ⟨l1', h1', e⟩ := ih ((skipM false s).drop x.2.1) (by simp; omega) l1 h1
      refine ⟨⟨x.1, M - (skipM false s).length, (skipM false s).take x.2.1, x.2.2⟩ :: l1', ?_, by simp [Tok.bare, e]⟩
      rw [toks_eq, if_neg h0, hx]
      simp only [Option.bind_some]
      rw [h1']
      rfl

theorem blanked_length (N : Nat) : ∀ (n : Nat) (s : List UInt8), s.length ≤ n → ∀ l, toks parse N s = some l → (blanked l).length ≤ 2 * s.length ∧ l.length ≤ s.length := by
  intro n
  induction n with
  | zero =>
    intro s hs l h
    obtain rfl : s = [] := by simpa using hs
    rw [toks_nil] at h
    injection h with h; subst h
    simp [blanked]
  | succ n ih =>
    intro s hs l h
    rw [toks_eq] at h
    have hl := skipM_le false s
    split at h
    · injection h with h; subst h
      simp [blanked]
    · obtain ⟨x, hx, h⟩ := Option.bind_eq_some_iff.1 h
      obtain ⟨l1, h1, rfl⟩ := Option.map_eq_some_iff.1 h
      have hle := one1_le hx
      have := ih ((skipM false s).drop x.2.1) (by simp; omega) l1 h1
      simp only [List.length_drop] at this
      have e : (blanked (⟨x.1, N - (skipM false s).length, (skipM false s).take x.2.1, x.2.2⟩ :: l1)).length = min x.2.1 (skipM false s).length + 1 + (blanked l1).length := by simp [blanked]; omega
      refine ⟨by rw [e]; omega, by simp; omega⟩
theorem blanked_take {l : List Tok} {k : Nat} (h : k < l.length) : blanked (l.take (k + 1)) = blanked (l.take k) ++ (l[k].t ++ [32]) := by
  unfold blanked
  rw [List.take_add_one, List.getElem?_eq_getElem h, Option.toList_some, List.flatMap_append]
  simp only [List.flatMap_cons, List.flatMap_nil, List.append_nil]
theorem blanked_mono (l : List Tok) (k : Nat) : (blanked (l.take k)).length ≤ (blanked l).length := by
  have : blanked l = blanked (l.take k) ++ blanked (l.drop k) := by simp only [blanked, ← List.flatMap_append, List.take_append_drop]
  rw [this]; simp

end Go.Proofs.YtdhaddldmooniaaGreatDoor
