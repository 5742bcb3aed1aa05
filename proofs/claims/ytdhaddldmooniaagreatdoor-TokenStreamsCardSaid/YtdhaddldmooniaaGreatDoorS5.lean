/- Taking texts: the plain law; slices of texts. -/
import Derived.Test.YtdhaddldmooniaaGreatDoorS3
namespace Go.Proofs.YtdhaddldmooniaaGreatDoor
open Go.RowKit
set_option maxRecDepth 100000

theorem heap_two (w : World) (b : Nat) (x0 x1 y0 y1 : Value) (t : TypeId) (h : w.heap[b]? = some (.cells #[x0, x1] t (0, 0))) :
    ((w.setCell ⟨b, 0, none⟩ y0).setCell ⟨b, 1, none⟩ y1).heap[b]? = some (.cells #[y0, y1] t (0, 0)) := by
  simp [World.setCell, Array.getElem?_modify, h]
theorem heap_two_other (W : World) {b i : Nat} (hi : i ≠ b) (y0 y1 : Value) : ((W.setCell ⟨b, 0, none⟩ y0).setCell ⟨b, 1, none⟩ y1).heap[i]? = W.heap[i]? := by
  rw [heap_set_other _ ⟨b, 1, none⟩ _ _ hi, heap_set_other _ ⟨b, 0, none⟩ _ _ hi]
theorem bl_two {w W : World} {b : Nat} (h : Bl w W) (hb : w.heap.size ≤ b) (y0 y1 : Value) : Bl w ((W.setCell ⟨b, 0, none⟩ y0).setCell ⟨b, 1, none⟩ y1) := (h.set hb _).set hb _

theorem three_0 (W : World) (o1 o2 o3 : Obj) : (((W.alloc o1).alloc o2).alloc o3).heap[W.heap.size]? = some o1 := by
  rw [heap_old _ _ (by simp; omega), heap_old _ _ (by simp), heap_new]
theorem three_1 (W : World) (o1 o2 o3 : Obj) : (((W.alloc o1).alloc o2).alloc o3).heap[W.heap.size + 1]? = some o2 := by
  rw [heap_old _ _ (by simp), heap_new' _ _ (by simp)]
/-- Where a stream is behind these texts; none: it is not at them. -/
def takeK (ts : List Tok) : Nat → List (List UInt8) → Option Nat
  | k, [] => some k
  | k, s :: r => match ts[k]? with
    | some x => if isB x s then takeK ts (nextK ts.length k) r else none
    | none => none
theorem takeK_cons {ts : List Tok} {k : Nat} {x : Tok} (hx : ts[k]? = some x) (s : List UInt8) (r : List (List UInt8)) : takeK ts k (s :: r) = if isB x s then takeK ts (nextK ts.length k) r else none := by
  simp only [takeK, hx]
theorem takeK_app (ts : List Tok) : ∀ (a b : List (List UInt8)) (k : Nat), takeK ts k (a ++ b) = (takeK ts k a).bind fun k' => takeK ts k' b
  | [], b, k => rfl
  | s :: r, b, k => by
    simp only [List.cons_append, takeK]
    cases ts[k]? with
    | none => rfl
    | some x =>
      simp only
      split
      · exact takeK_app ts r b _
      · rfl
theorem takeK_lt {ts : List Tok} : ∀ {l : List (List UInt8)} {k k' : Nat}, k < ts.length → takeK ts k l = some k' → k' < ts.length
  | [], k, k', hk, h => by injection h with h; omega
  | s :: r, k, k', hk, h => by
    obtain ⟨x, hx⟩ : ∃ x, ts[k]? = some x := ⟨_, List.getElem?_eq_getElem hk⟩
    rw [takeK_cons hx] at h
    split at h
    · exact takeK_lt (nextK_lt hk) h
    · cases h
theorem takeK_step {ts : List Tok} {xs : List (List UInt8)} {j k k' : Nat} {x : Tok} (hj : j < xs.length) (h : takeK ts k (xs.take j) = some k') (hx : ts[k']? = some x) (hb : isB x xs[j] = true) : takeK ts k (xs.take (j + 1)) = some (nextK ts.length k') := by
  rw [List.take_succ_eq_append_getElem hj, takeK_app, h, Option.bind_some, takeK_cons hx, if_pos hb]
  rfl
theorem takeK_stop {ts : List Tok} {xs : List (List UInt8)} {j k k' : Nat} {x : Tok} (hj : j < xs.length) (h : takeK ts k (xs.take j) = some k') (hx : ts[k']? = some x) (hb : isB x xs[j] = false) : takeK ts k xs = none := by
  have e : xs = xs.take j ++ (xs[j] :: xs.drop (j + 1)) := by rw [← List.drop_eq_getElem_cons hj, List.take_append_drop]
  rw [e, takeK_app, h, Option.bind_some, takeK_cons hx, hb]
  rfl

/-- The slice value sv holds these texts. -/
def Strs (W : World) (sv : Value) (xs : List (List UInt8)) : Prop :=
  ∃ a cap, sv = .slice a xs.length cap ∧ ∀ j, (h : j < xs.length) → ∃ b off, a = some ⟨b, off, none⟩ ∧ W.cell? ⟨b, off + j, none⟩ = some (S xs[j])
theorem Strs.bl {W W' : World} (hb : Bl W W') {sv : Value} {xs : List (List UInt8)} (h : Strs W sv xs) : Strs W' sv xs := by
  obtain ⟨a, cap, e, hc⟩ := h
  refine ⟨a, cap, e, fun j hj => ?_⟩
  obtain ⟨b, off, e2, c⟩ := hc j hj
  exact ⟨b, off, e2, hb.cell c⟩
theorem Strs.shape {W : World} {sv : Value} {xs : List (List UInt8)} (h : Strs W sv xs) : ∃ a cap, sv = .slice a xs.length cap ∧ ∀ j, (h : j < xs.length) → ∃ b off, a = some ⟨b, off, none⟩ ∧ W.cell? ⟨b, off + j, none⟩ = some (S xs[j]) := h

end Go.Proofs.YtdhaddldmooniaaGreatDoor
