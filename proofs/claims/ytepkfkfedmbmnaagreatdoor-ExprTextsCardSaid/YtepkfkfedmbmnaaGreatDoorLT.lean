/- TokenHolds: the walk. -/
import Derived.Test.YtepkfkfedmbmnaaGreatDoorMW
import Derived.Test.YtepkfkfedmbmnaaGreatDoorMP
namespace Go.Proofs.YtepkfkfedmbmnaaGreatDoor
open Go.RowKit
set_option maxRecDepth 100000

def Yes (w : World) (e : Ending) (w' : World) : Prop := e = .returned (.bool true) ∧ Bl w w'

/-- A row of tokens in block g. -/
def Row (W : World) (g : Nat) (l : List Tok) : Prop := ∀ j (h : j < l.length), At6 W g j l[j]
theorem Row.bl {W W' : World} {g : Nat} {l : List Tok} (h : Row W g l) (hb : Bl W W') : Row W' g l := fun j hj => (h j hj).bl hb
theorem At6.block {W W' : World} {g j : Nat} {x : Tok} (h : At6 W g j x) (hb : W'.heap[g]? = W.heap[g]?) : At6 W' g j x := by
  have c : ∀ o v, W.cell? ⟨g, o, none⟩ = some v → W'.cell? ⟨g, o, none⟩ = some v := fun o v hv => by rw [World.cell?_of_block (w := W) hb]; exact hv
  exact ⟨c _ _ h.1, c _ _ h.2.1, c _ _ h.2.2.1, c _ _ h.2.2.2.1, c _ _ h.2.2.2.2.1, c _ _ h.2.2.2.2.2⟩
theorem Row.block {W W' : World} {g : Nat} {l : List Tok} (h : Row W g l) (hb : W'.heap[g]? = W.heap[g]?) : Row W' g l := fun j hj => (h j hj).block hb
theorem Row.set_other {W : World} {g : Nat} {l : List Tok} (h : Row W g l) {p : Addr} (hp : g ≠ p.block) (v : Value) : Row (W.setCell p v) g l := h.block (Below.heap_setCell _ _ _ _ hp)
/-- The last token's place is struck. -/
theorem Row.strike {W : World} {g n N : Nat} {ts : List Tok} (h : Row W g (ts ++ [endTok N])) (hn : ts.length = n) : Row (W.setCell ⟨g, n * 6 + 1, none⟩ (.int .i64 0)) g (ts ++ [endTok 0]) := by
  subst hn
  intro j hj
  have hj' : j < (ts ++ [endTok N]).length := by simpa using hj
  have h6 := h j hj'
  by_cases e : j = ts.length
  · subst e
    have e1 : (ts ++ [endTok N])[ts.length] = endTok N := by simp
    have e2 : (ts ++ [endTok 0])[ts.length] = endTok 0 := by simp
    rw [e1] at h6
    rw [e2]
    exact ⟨set_far h6.1 (by simp), set_same h6.2.1, set_far h6.2.2.1 (by simp), set_far h6.2.2.2.1 (by simp), set_far h6.2.2.2.2.1 (by simp), set_far h6.2.2.2.2.2 (by simp)⟩
  · have hl : j < ts.length := by simp at hj; omega
    have e1 : (ts ++ [endTok N])[j] = ts[j] := by rw [List.getElem_append_left hl]
    have e2 : (ts ++ [endTok 0])[j] = ts[j] := by rw [List.getElem_append_left hl]
    rw [e1] at h6
    rw [e2]
    refine ⟨set_far h6.1 ?_, set_far h6.2.1 ?_, set_far h6.2.2.1 ?_, set_far h6.2.2.2.1 ?_, set_far h6.2.2.2.2.1 ?_, set_far h6.2.2.2.2.2 ?_⟩ <;> (intro e; injection e with _ e _; omega)

theorem own_cap {W : World} {base : Nat} {e : TypeId} {size g n cap : Nat} {xs : List Value} (h : W.ownsRow base e size (.slice (some ⟨g, 0, none⟩) n cap) n xs) : n ≤ cap := by
  rcases h.2 with ⟨h0, _⟩ | ⟨g', cap', cur, h0, _, _, hn, _⟩
  · cases h0
  · injection h0 with _ _ h3; subst h3; exact hn
theorem Row.cellAdd {W : World} {g : Nat} {l : List Tok} (h : Row W g l) : ∀ j u, (rowOf l)[j]? = some u → W.cell? ((⟨g, 0, none⟩ : Addr).add j) = some u := by
  intro j u hj
  have hl := (List.getElem?_eq_some_iff.1 hj).1
  rw [rowOf_length] at hl
  obtain ⟨q, r, hr, rfl⟩ : ∃ q r, r < 6 ∧ j = q * 6 + r := ⟨j / 6, j % 6, by omega, by omega⟩
  have hd : q < l.length := by omega
  obtain ⟨a0, a1, a2, a3, a4, a5⟩ := h q hd
  rw [row_at l q hd r hr] at hj
  rw [show (⟨g, 0, none⟩ : Addr).add (q * 6 + r) = ⟨g, q * 6 + r, none⟩ by simp [Addr.add]; omega]
  match r, hr with
  | 0, _ => simp only [tokCells, List.getElem?_cons_zero, Option.some.injEq] at hj; subst hj; exact a0
  | 1, _ => simp only [tokCells, List.getElem?_cons_zero, List.getElem?_cons_succ, Option.some.injEq] at hj; subst hj; exact a1
  | 2, _ => simp only [tokCells, List.getElem?_cons_zero, List.getElem?_cons_succ, Option.some.injEq] at hj; subst hj; exact a2
  | 3, _ => simp only [tokCells, List.getElem?_cons_zero, List.getElem?_cons_succ, Option.some.injEq] at hj; subst hj; exact a3
  | 4, _ => simp only [tokCells, List.getElem?_cons_zero, List.getElem?_cons_succ, Option.some.injEq] at hj; subst hj; exact a4
  | 5, _ => simp only [tokCells, List.getElem?_cons_zero, List.getElem?_cons_succ, Option.some.injEq] at hj; subst hj; exact a5
theorem Row.take {W : World} {g : Nat} {l : List Tok} {x : Tok} (h : Row W g (l ++ [x])) : Row W g l := fun j hj => by
  have := h j (by simp; omega)
  rw [List.getElem_append_left hj] at this
  exact this
theorem row_one (l : List Tok) : ∀ u ∈ rowOf l, u.oneCell' = true := by
  intro u hu
  simp only [rowOf, List.mem_flatMap, tokCells, List.mem_cons, List.mem_nil_iff, or_false] at hu
  obtain ⟨x, _, h⟩ := hu
  rcases h with rfl | rfl | rfl | rfl | rfl | rfl <;> rfl
theorem rowOf_app (a b : List Tok) : rowOf (a ++ b) = rowOf a ++ rowOf b := by simp [rowOf]
theorem own_empty (W : World) : (W.alloc (.cells #[] 53)).ownsRow W.heap.size 53 6 (.slice (some ⟨W.heap.size, 0, none⟩) 0 0) 0 [] :=
  ⟨rfl, .inr ⟨W.heap.size, 0, #[], rfl, Nat.le_refl _, heap_new W _, Nat.le_refl _, by unfold maxLen; omega, rfl, rfl⟩⟩
theorem append_bl {W W' : World} (h : (W.alloc (.cells #[] 53)).grownBy W' (Value.slice (some ⟨W.heap.size, 0, none⟩) 0 0).ownBlock) : Bl W W' :=
  Below.grown ((Bl.refl W).alloc _) h (by simp) (fun j hj => ((own_empty W).lt j hj).1)
theorem append_own {W : World} {base : Nat} {e : TypeId} {size n : Nat} {v : Value} {xs : List Value} (h : W.ownsRow base e size v (0 + n) ([] ++ xs)) : W.ownsRow base e size v n xs := by
  rw [Nat.zero_add, List.nil_append] at h; exact h
theorem append_bl2 {W W5 W' : World} {v : Value} {n : Nat} {xs : List Value} (hb : Bl W W5) (ho : W5.ownsRow W.heap.size 53 6 v n xs) (h : W5.grownBy W' v.ownBlock) : Bl W W' :=
  Below.grown hb h hb.size (fun j hj => (ho.lt j hj).1)
theorem append_own2 {W : World} {base : Nat} {v : Value} {n : Nat} {a b : List Tok} (h : W.ownsRow base 53 6 v n (rowOf a ++ rowOf b)) : W.ownsRow base 53 6 v n (rowOf (a ++ b)) := by
  rw [rowOf_app]; exact h
theorem end_cell {W : World} {g : Nat} {ts : List Tok} {N : Nat} (h : Row W g (ts ++ [endTok N])) : W.cell? ⟨g, ts.length * 6 + 1, none⟩ = some (.int .i64 (N : Int)) := by
  have := (h ts.length (by simp)).2.1
  simpa [endTok] using this
theorem bare_end {a b : List Tok} (h : a.map Tok.bare = b.map Tok.bare) (N M : Nat) : (a ++ [endTok N]).map Tok.bare = (b ++ [endTok M]).map Tok.bare := by
  simp only [List.map_append, h]
  rfl

theorem app_str (a b : List UInt8) : (⟨a.toArray⟩ : ByteArray) ++ (⟨b.toArray⟩ : ByteArray) = ⟨(a ++ b).toArray⟩ := by
  apply ByteArray.ext
  simp

theorem holds_s (la : List UInt8) (ta : List Tok) (h : toksO la = some ta) : ∃ tc, toksO (blanked ta) = some tc ∧ tc.map Tok.bare = ta.map Tok.bare :=
  toks_blanked la.length (blanked ta).length la.length la (Nat.le_refl _) ta h
theorem holds_d (la lb : List UInt8) (ta tb : List Tok) (h : toksO la = some ta) (h' : toksO lb = some tb) : ∃ td, toksO (la ++ 10 :: lb) = some td ∧ td.map Tok.bare = (ta ++ tb).map Tok.bare := by
  obtain ⟨l1, h1, e1⟩ := toks_line (parse := parseO) la.length (la ++ 10 :: lb).length lb la.length la (Nat.le_refl _) ta h
  obtain ⟨l2, h2, e2⟩ := toks_pos (parse := parseO) lb.length (la ++ 10 :: lb).length lb.length lb (Nat.le_refl _) tb h'
  refine ⟨l1 ++ l2, ?_, by simp [e1, e2]⟩
  unfold toksO
  rw [h1, h2]
  rfl

theorem allErr_small (l : List UInt8) (h : l.length ≤ 4000) : (toksO l ≠ none ∧ allErr l = 0) ∨ (toksO l = none ∧ allErr l = 250) := by
  unfold allErr
  rw [if_neg (by omega)]
  by_cases h0 : toksO l = none
  · right; rw [if_pos h0]; exact ⟨h0, rfl⟩
  · left; rw [if_neg h0]; exact ⟨h0, rfl⟩
end Go.Proofs.YtepkfkfedmbmnaaGreatDoor
