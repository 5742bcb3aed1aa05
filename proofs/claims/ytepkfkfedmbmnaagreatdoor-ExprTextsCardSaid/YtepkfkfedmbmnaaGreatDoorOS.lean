/- Arguments opened: slices of texts, slices of calls. -/
import Derived.Test.YtepkfkfedmbmnaaGreatDoorRW
import Derived.Test.YtepkfkfedmbmnaaGreatDoorMS
import Derived.OpenShut
import Derived.Deep.Strs
import Derived.Deep.Slices
import Derived.Deep.Fields
import Derived.ChangeSame
namespace Go.Proofs.YtepkfkfedmbmnaaGreatDoor
open Go.ChangeShapes Go.WideShapes Go.ChangeAt Go.RowKit Go.Deep
set_option maxRecDepth 100000

theorem cell_spot {W : World} {a : Addr} {v : Value} (h : W.cell? a = some v) : a = ⟨a.block, a.off, none⟩ := by
  obtain ⟨b, o, s⟩ := a
  cases s with
  | none => rfl
  | some s =>
    simp only [World.cell?] at h
    split at h <;> simp at h
theorem add_none (b o j : Nat) : (⟨b, o, none⟩ : Addr).add j = ⟨b, o + j, none⟩ := by
  unfold Addr.add
  split
  · subst_vars; rfl
  · rfl
theorem stringOne' : Tryz.prog.cellsOf 9 = 1 := by kernel_rfl
theorem slice_whole {a : Option Addr} {len : Nat} {V : Nat → Value} {W : World} (h : ∀ i, i < len → ∃ a', a = some a' ∧ W.cell? (a'.add i) = some (V i)) : ∀ j, j < len → ∃ b off, a = some ⟨b, off, none⟩ ∧ W.cell? ⟨b, off + j, none⟩ = some (V j) := by
  intro j hj
  obtain ⟨a', rfl, hc⟩ := h j hj
  obtain ⟨a'', e, hc0⟩ := h 0 (by omega)
  injection e with e
  subst e
  rw [show a'.add 0 = a' from rfl] at hc0
  have ea := cell_spot hc0
  refine ⟨a'.block, a'.off, by rw [← ea], ?_⟩
  rw [ea, add_none] at hc
  exact hc
/-- The bytes of a text. -/
def bytesOf : Value → List UInt8
  | .string s => s.data.toList
  | _ => []
section
variable {H : Type} {enc : TypeId × Value → H} {W : World} {base : Nat} {spare : Nat → Bool} {held : Bool}
theorem strs_of_trod {n : Nat} {v : Value} {y : DataW H × List MemPlace} (h : DataW.trod enc Tryz.prog W base spare held n 93 [v] = some y) : ∃ xs, Strs W v xs := by
  rcases open_slice1 Tryz.underlying93 stringOne' h with ⟨hcs, _⟩ | ⟨a, len, cap, m, n', V, D, Pl, hcs, _, hl, hm, hmm, _, hc⟩
  · simp only [List.cons.injEq, and_true] at hcs
    exact ⟨[], none, 0, hcs, fun j hj => by simp at hj⟩
  · simp only [List.cons.injEq, and_true] at hcs
    have hlm : len ≤ m := by rw [hmm]; split <;> omega
    have hs : ∀ i, i < len → V i = S (bytesOf (V i)) := fun i hi => by
      obtain ⟨s, e, _, _⟩ := DataW.trod_string Tryz.underlying9 (hc i (by omega)).2
      simp only [List.cons.injEq, and_true] at e
      rw [e]
      rfl
    have hw := slice_whole (a := some a) (len := len) (V := V) (W := W) (fun i hi => ⟨a, rfl, (hc i (by omega)).1⟩)
    refine ⟨(List.range len).map fun i => bytesOf (V i), some a, cap, by simpa using hcs, fun j hj => ?_⟩
    have hj' : j < len := by simpa using hj
    obtain ⟨b, off, e, c⟩ := hw j hj'
    refine ⟨b, off, e, ?_⟩
    rw [c, hs j hj']
    simp [bytesOf]
end

section
variable {H : Type} {enc : TypeId × Value → H} {P : Program} {w : World} {base : Nat} {spare : Nat → Bool} {held : Bool}
theorem open_slice_fields {t e : TypeId} {fs : Array Field} {fuel : Nat} {cs : List Value} {x : DataW H × List MemPlace} (ht : P.underlying t = some (.slice e)) (he : P.underlying e = some (.struct fs))
    (hone : oneCellFields P fs = true) (hC : P.cellsOf e = fs.size) (h : DataW.trod enc P w base spare held fuel t cs = some x) :
    (cs = [.slice none 0 0] ∧ x = (.nil, [])) ∨
    ∃ (a : Addr) (len cap m : Nat), cs = [.slice (some a) len cap] ∧ len ≤ cap ∧ cap ≤ maxLen ∧ len ≤ m ∧
      ∀ i, i < m → ∃ (n : Nat), ∀ (j : Nat) (f : Field), fs[j]? = some f → ∃ (v : Value) (y : DataW H × List MemPlace), w.cell? (a.add (i * fs.size + j)) = some v ∧ DataW.trod enc P w base spare held n f.type [v] = some y := by
  rcases open_slice ht h with h0 | ⟨a, len, cap, m, n, D, Pl, hcs, hb, hl, hm, hmm, hx, hi⟩
  · exact .inl h0
  · refine .inr ⟨a, len, cap, m, hcs, hl, hm, by rw [hmm]; split <;> omega, fun i him => ?_⟩
    obtain ⟨cs', hc, ht'⟩ := hi i him
    rw [hC] at hc
    obtain ⟨ys, n', hn', hy, hlen, hyl, hf⟩ := DataW.trod_struct he ht'
    obtain ⟨_, hcl, hat⟩ := World.cells?_some hc
    refine ⟨n', fun j f hj => ?_⟩
    obtain ⟨ho, hk⟩ := hone_of hone j f hj
    have hjl : j < fs.size := (Array.getElem?_eq_some_iff.1 hj).1
    have hcell := hat j hjl
    have hv : cs'[j]? = some (cs'[j]'(by omega)) := List.getElem?_eq_getElem (by omega)
    have h1 := hf j f hj
    rw [ho, hk] at h1
    have hone' : (cs'.drop j).take 1 = [cs'[j]'(by omega)] := by
      rw [List.drop_eq_getElem_cons (by omega)]
      rfl
    rw [hone'] at h1
    have hys : ys[j]? = some (ys[j]'(by omega)) := List.getElem?_eq_getElem (by omega)
    refine ⟨_, _, ?_, h1.trans hys⟩
    rw [← Go.Deep.add_add, hcell, hv]
end

end Go.Proofs.YtepkfkfedmbmnaaGreatDoor
