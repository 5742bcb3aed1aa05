/- A strings.Builder that a call has made, beside another block that is kept: WriteByte. -/
import Derived.Test.YtdhaddldmooniaaGreatDoorP0
import Derived.Test.YtdhaddldmooniaaGreatDoorShelf
import Derived.Shelf.Strings.BuilderK
namespace Go.Proofs.YtdhaddldmooniaaGreatDoor
open Go.RowKit Go.Shelf

theorem ownsRow_low {w : World} {base base' : Nat} {e : TypeId} {size : Nat} {v : Value} {n : Nat} {xs : List Value} (h : w.ownsRow base e size v n xs) (hb : base' ≤ base) : w.ownsRow base' e size v n xs := by
  obtain ⟨h1, h2 | ⟨g, cap, cur, hv, hg, rest⟩⟩ := h
  · exact ⟨h1, .inl h2⟩
  · exact ⟨h1, .inr ⟨g, cap, cur, hv, Nat.le_trans hb hg, rest⟩⟩
theorem ownsRow_apart {w : World} {base : Nat} {e : TypeId} {size : Nat} {v : Value} {n : Nat} {xs : List Value} (h : w.ownsRow base e size v n xs) {k : Nat} (hk : k < base) : v.ownBlock ≠ some k := by
  obtain ⟨h1, ⟨rfl, _⟩ | ⟨g, cap, cur, rfl, hg, rest⟩⟩ := h
  · simp [Value.ownBlock]
  · simp [Value.ownBlock]; omega

/-- A builder at block b that holds bs, its row behind block k; block k holds o. -/
def KB (B b k : Nat) (o : Obj) (bs : List Value) (w : World) : Prop :=
  B ≤ b ∧ b < k ∧ ∃ p v, (p = .pointer none ∨ p = .pointer (some ⟨b, 0, none⟩)) ∧ w.heap[b]? = some (.cells #[p, v] 139 (0, 0)) ∧ w.ownsRow (k + 1) 5 1 v bs.length bs ∧ w.heap[k]? = some o

theorem KB.is {B b k : Nat} {o : Obj} {bs : List Value} {w : World} (h : KB B b k o bs w) : Lib.IsBuilder 139 5 B b bs w := by
  obtain ⟨hB, hbk, p, v, hp, hb, ho, _⟩ := h
  have hn := ownsRow_apart ho (k := b) (by omega)
  have ho' := ownsRow_low ho (base' := B) (by omega)
  rcases hp with rfl | rfl
  · exact .inl ⟨hB, v, hb, ho', hn⟩
  · exact .inr ⟨hB, v, hb, ho', hn⟩
theorem KB.start {B b k : Nat} {o : Obj} {w : World} (hB : B ≤ b) (hbk : b < k) (hb : w.heap[b]? = some (.cells #[.pointer none, .slice none 0 0] 139 (0, 0))) (hk : w.heap[k]? = some o) : KB B b k o [] w :=
  ⟨hB, hbk, _, _, .inl rfl, hb, ⟨rfl, .inl ⟨rfl, rfl⟩⟩, hk⟩
theorem KB.lt {B b k : Nat} {o : Obj} {bs : List Value} {w : World} (h : KB B b k o bs w) : B ≤ b ∧ b < k ∧ k < w.heap.size := by
  obtain ⟨h1, h2, p, v, _, _, _, hk⟩ := h
  exact ⟨h1, h2, (Array.getElem?_eq_some_iff.1 hk).1⟩
theorem KB.other {B b k : Nat} {o : Obj} {bs : List Value} {w : World} (h : KB B b k o bs w) : w.heap[k]? = some o := by
  obtain ⟨_, _, p, v, _, _, _, hk⟩ := h
  exact hk

set_option maxHeartbeats 1000000 in
set_option maxRecDepth 100000 in
theorem copyCheck_kb (B b k : Nat) (o : Obj) (bs : List Value) (w : World) (h : KB B b k o bs w) :
    Calls Tryz.prog 110 #[.pointer (some ⟨b, 0, none⟩)] w fun e w' => e = .returned (.tuple #[]) ∧ (KB B b k o bs w' ∧ w'.cell? ⟨b, 0, none⟩ = some (.pointer (some ⟨b, 0, none⟩)) ∧ Below B w w') := by
  obtain ⟨hB, hbk, p, v, hp, hb, ho, hk⟩ := h
  have hn := ownsRow_apart ho (k := b) (by omega)
  have c0 : w.cell? ⟨b, 0, none⟩ = some p := by rw [Lib.cell_of_heap hb]; rfl
  have hlt : b < w.heap.size := World.block_lt_of_cell? _ _ c0
  rcases hp with rfl | rfl
  · refine (Any.Builder_copyCheck_fresh { Tryz.lays167 with } Tryz.Builder_Extra_167.toX72 b w c0 (by simp [World.shape?, hb]; rfl) (Lib.frozen_of_heap hb 0)).mono ?_
    rintro e w' ⟨rfl, rfl⟩
    have hb' : (w.setCell ⟨b, 0, none⟩ (.pointer (some ⟨b, 0, none⟩))).heap[b]? = some (.cells #[.pointer (some ⟨b, 0, none⟩), v] 139 (0, 0)) := by
      simp [World.setCell, Array.getElem?_modify, hb]
    refine ⟨rfl, ⟨hB, hbk, _, v, .inr rfl, hb', ?_, ?_⟩, by rw [Lib.cell_of_heap hb']; rfl, (Below.refl B w).setCell (p := ⟨b, 0, none⟩) hB _⟩
    · refine ho.kept (row := some b) ⟨rfl, rfl, rfl, by simp [World.setCell], fun k _ hk => Below.heap_setCell _ _ _ _ (fun e => hk (by simp [e]))⟩ ?_
      exact Or.inr hn
    · rw [Below.heap_setCell _ _ _ _ (by simp; omega)]; exact hk
  · refine (Any.Builder_copyCheck_used { Tryz.lays167 with } Tryz.Builder_Extra_167.toX72 b w c0).mono ?_
    rintro e w' ⟨rfl, rfl⟩
    exact ⟨rfl, ⟨hB, hbk, _, v, .inr rfl, hb, ho, hk⟩, c0, Below.refl B _⟩

set_option maxHeartbeats 2000000 in
set_option maxRecDepth 100000 in
theorem WriteByte_kb (B b k : Nat) (o : Obj) (bs : List Value) (c : Int) (w : World) (h : KB B b k o bs w) (hlen : bs.length + 1 ≤ 140737488355328) (hBw : B ≤ w.heap.size) :
    Calls Tryz.prog 98 #[.pointer (some ⟨b, 0, none⟩), .int .u8 c] w fun e w' => e = .returned .nilIface ∧ (KB B b k o (bs ++ [.int .u8 c]) w' ∧ Below B w w') := by
  obtain ⟨i0, hi, hz0, hz1, hz2⟩ := info_parts Tryz.Builder_Extra_167.infoByte
  go_enter Tryz.func98, Tryz.ntmps98
  go_wp2_with (go_at_call 110; refine (copyCheck_kb B b k o bs _ h).mono ?_)
  rintro e w1 ⟨rfl, h1, c0, hb1⟩
  obtain ⟨hB, hlk, p, v, hp, hbk, hown, hk⟩ := h1
  have hne := ownsRow_apart hown (k := b) (by omega)
  have hke := ownsRow_apart hown (k := k) (by omega)
  have hkl : k < w1.heap.size := (Array.getElem?_eq_some_iff.1 hk).1
  have hp' : p = .pointer (some ⟨b, 0, none⟩) := by rw [Lib.cell_of_heap hbk] at c0; simpa using c0
  subst hp'
  have c1 : w1.cell? ⟨b, 1, none⟩ = some v := by rw [Lib.cell_of_heap hbk]; rfl
  go_wp2_with (at_builtin; refine wpList_append_own _ rfl _ _ 98 rfl (k + 1) 5 i0 (.int .u8 0) 1 1 Tryz.underlying98 hi hz0 hz1 hz2 rfl (by decide) _ _ _ rfl (hown.alloc _) ⟨w1.heap.size, 0, none⟩ 1 1 [.int .u8 c] rfl rfl ?c1 ?c2 ?c3 ?c4 ?c5 ?_)
  case c1 =>
    intro j u hj
    match j, hj with
    | 0, hj => simp at hj; subst hj; simp [Addr.add]
  case c2 => intro u hu; simp at hu; subst hu; rfl
  case c3 => unfold maxLen; omega
  case c4 => omega
  case c5 => simp; omega
  intro v' w2 hown' hgrow hnew
  have hlt : b < w1.heap.size := World.block_lt_of_cell? _ _ c1
  have hb2 : w2.heap[b]? = some (.cells #[.pointer (some ⟨b, 0, none⟩), v] 139 (0, 0)) := by
    rw [hgrow.block b (by simp; omega) (fun e => hne e.symm), Lib.alloc_old w1 _ b hlt]
    exact hbk
  have hk2 : w2.heap[k]? = some o := by
    rw [hgrow.block k (by simp; omega) (fun e => hke e.symm), Lib.alloc_old w1 _ k hkl]
    exact hk
  have d0 : w2.cell? ⟨b, 0, none⟩ = some (.pointer (some ⟨b, 0, none⟩)) := by rw [Lib.cell_of_heap hb2]; rfl
  have d1 : w2.cell? ⟨b, 1, none⟩ = some v := by rw [Lib.cell_of_heap hb2]; rfl
  have f1 : w2.frozen? ⟨b, 1, none⟩ = false := Lib.frozen_of_heap hb2 1
  obtain ⟨g, cap, rfl⟩ : ∃ g cap, v' = .slice (some ⟨g, 0, none⟩) (bs.length + 1) cap := by
    rcases hown'.2 with ⟨_, h0⟩ | ⟨g, cap, cur, hv, _⟩
    · omega
    · exact ⟨g, cap, hv⟩
  go_wp2
  go_ret
  refine ⟨rfl, ⟨hB, hlk, _, _, .inr rfl, (?_ : _ = some (Obj.cells #[.pointer (some ⟨b, 0, none⟩), .slice (some ⟨g, 0, none⟩) (bs.length + 1) cap] 139 (0, 0))), ?_, ?_⟩, ?_⟩
  · simp [World.setCell, Array.getElem?_modify, hb2]
  · have hn' := ownsRow_apart hown' (k := b) (by omega)
    have := hown'.kept (row := some b) (w' := w2.setCell ⟨b, 1, none⟩ (.slice (some ⟨g, 0, none⟩) (bs.length + 1) cap)) ⟨rfl, rfl, rfl, by simp [World.setCell], fun k _ hk => Below.heap_setCell _ _ _ _ (fun e => hk (by simp [e]))⟩ (Or.inr hn')
    simpa using this
  · rw [Below.heap_setCell _ _ _ _ (by simp; omega)]; exact hk2
  · exact ((hb1.alloc (by have := hb1.size; omega) _).grown hgrow (by have := hb1.size; simp; omega) (fun j hj => by have := (hown.lt j hj).1; omega)).setCell (p := ⟨b, 1, none⟩) hB _

end Go.Proofs.YtdhaddldmooniaaGreatDoor
