/- Plain facts that need no program. Maps keyed by integers that a call makes and fills from a literal: what an insert and a look-up come to. -/
import Derived.WalkKit
import Derived.WalkSpells
import Derived.Laws.Bits64
import Derived.StillTailTactics
import Derived.Lib.Hide
import Derived.MapKept
namespace Go.Proofs.YtepkfkfedmbmnaaGreatDoor
open Go.RowKit
set_option maxRecDepth 100000

/-- n & 1 of an int64. -/
theorem and_one_i64 (n : Int) : bits BinOp.and IntKind.i64 n 1 = n % 2 := by
  show IntKind.i64.wrap ((BitVec.ofInt 64 n &&& BitVec.ofInt 64 1).toNat : Int) = _
  rw [BitVec.toNat_and]
  have h1 : (BitVec.ofInt 64 1).toNat = 1 := by decide
  have h2 : (BitVec.ofInt 64 n).toNat = (n % 18446744073709551616).toNat := by
    rw [BitVec.toNat_ofInt]; rfl
  rw [h1, h2, Nat.and_one_is_mod, IntKind.wrap_i64]
  omega
theorem and_15_u8 (n : Nat) (h : n < 256) : bits BinOp.and IntKind.u8 (n : Int) 15 = ((n % 16 : Nat) : Int) := by
  show IntKind.u8.wrap ((BitVec.ofInt 8 (n : Int) &&& BitVec.ofInt 8 15).toNat : Int) = _
  rw [BitVec.toNat_and]
  have h1 : (BitVec.ofInt 8 15).toNat = 15 := by decide
  have h2 : (BitVec.ofInt 8 (n : Int)).toNat = n := by
    rw [BitVec.ofInt_natCast, BitVec.toNat_ofNat]; exact Nat.mod_eq_of_lt (by omega)
  rw [h1, h2, show n &&& 15 = n % 16 from Nat.and_two_pow_sub_one_eq_mod n 4]
  have : n % 16 < 256 := by omega
  simp [IntKind.wrap, IntKind.bits, IntKind.signed]
  omega
theorem and_one_self (n : Int) : bits BinOp.and IntKind.i64 n 1 = n ↔ n = 0 ∨ n = 1 := by
  rw [and_one_i64]; omega

/-- A region that draws its order, all but its tail still: with the draw as '.drew'. -/
theorem region_tail {P : Program} {id : Nat} {Q : Exit → Act → World → Prop} {a : Act} {w : World} {l : List Oper} (n : Nat) (hm : P.follows .mixedOrders = true) (hB : Region.lexTailB .any l.toArray n = true)
    (h : wpStill P l.toArray w.drew (fun a' => wpList P l.toArray Q (l.drop n) a' w.drew) (l.take n) a) : (Code.region id l.toArray true).wp P Q a w :=
  wp_region_still_tail n hm hB h

/-- What lay there stands as it stood; new blocks. -/
abbrev Bl (a w : World) : Prop := Below a.heap.size a w
theorem Bl.refl (a : World) : Bl a a := Below.refl _ _
theorem Bl.alloc {a w : World} (h : Bl a w) (o : Obj) : Bl a (w.alloc o) := Below.alloc h h.size o
theorem Bl.drew {a w : World} (h : Bl a w) : Bl a w.drew := Below.drew h
theorem Bl.call {a w w' : World} (h : Bl a w) (k : Bl w w') : Bl a w' := Below.trans h (k.mono h.size)
theorem Bl.set {a w : World} (h : Bl a w) {p : Addr} (hp : a.heap.size ≤ p.block) (v : Value) : Bl a (w.setCell p v) := Below.setCell h hp v
theorem Bl.cell {a w : World} (h : Bl a w) {p : Addr} {v : Value} (hp : a.cell? p = some v) : w.cell? p = some v := cell_later h hp

theorem Bl.frozen {a w : World} (h : Bl a w) {p : Addr} {v : Value} (hp : a.cell? p = some v) (hz : a.frozen? p = false) : w.frozen? p = false := (Below.frozen h (World.block_lt_of_cell? _ _ hp)).trans hz
theorem bcell {W w1 : World} (hb : Below W.heap.size W w1) : (∀ b o, b < W.heap.size → w1.cell? ⟨b, o, none⟩ = W.cell? ⟨b, o, none⟩) ∧ (∀ b o, b < W.heap.size → w1.frozen? ⟨b, o, none⟩ = W.frozen? ⟨b, o, none⟩) :=
  ⟨fun b o h => hb.cell (p := ⟨b, o, none⟩) h, fun b o h => hb.frozen (p := ⟨b, o, none⟩) h⟩

theorem heap_new (w : World) (o : Obj) : (w.alloc o).heap[w.heap.size]? = some o := by show (w.heap.push _)[w.heap.size]? = _; simp
theorem heap_old (w : World) (o : Obj) {k : Nat} (h : k < w.heap.size) : (w.alloc o).heap[k]? = w.heap[k]? := Below.heap_alloc _ _ _ h
theorem heap_new' (w : World) (o : Obj) {k : Nat} (h : k = w.heap.size) : (w.alloc o).heap[k]? = some o := by subst h; exact heap_new w o

theorem set_apart {w : World} {p q : Addr} {u v : Value} (h : w.cell? q = some v) (hpq : q.block ≠ p.block) : (w.setCell p u).cell? q = some v := by
  rw [World.cell?_of_block (w := w) (Below.heap_setCell _ _ _ _ hpq)]; exact h
theorem set_apart_frozen {w : World} {p q : Addr} {u : Value} (h : w.frozen? q = false) : (w.setCell p u).frozen? q = false := by
  rw [World.frozen?_setCell]; exact h
theorem set_far {w : World} {p q : Addr} {u v : Value} (h : w.cell? q = some v) (hpq : p ≠ q) : (w.setCell p u).cell? q = some v := by
  rw [World.cell?_setCell_other _ _ _ _ hpq]; exact h
theorem set_same {w : World} {p : Addr} {u v : Value} (h : w.cell? p = some v) : (w.setCell p u).cell? p = some u := World.cell?_setCell_same' _ _ _ (by rw [h]; rfl)

theorem ret_int {k : IntKind} {a b : Int} (h : a = b) : Ending.returned (.int k a) = .returned (.int k b) := by rw [h]
theorem ret_ib {k : IntKind} {a b : Int} {x y : Bool} (h : a = b) (h' : x = y) : Ending.returned (.tuple #[.int k a, .bool x]) = .returned (.tuple #[.int k b, .bool y]) := by rw [h, h']
theorem ret_bool {a b : Bool} (h : a = b) : Ending.returned (.bool a) = .returned (.bool b) := by rw [h]

end Go.Proofs.YtepkfkfedmbmnaaGreatDoor

namespace Go.Proofs.YtepkfkfedmbmnaaGreatDoor
open Go.RowKit

theorem run_insert_int {P : Program} {T kt et : TypeId} (hT : P.underlying T = some (.map kt et)) (hK : P.underlying kt = some (.int .i64)) (w : World) (es : Array MapEntry) (clock : Nat) (n : Int) (v : Value)
    (h : Instr.findNow (.int .i64) (.int .i64 n) es.toList 0 = some none) :
    (Instr.mapUpdate T (.map (some w.heap.size)) (.int .i64 n) v).run P (w.alloc (.map es clock)) = .ok () (w.alloc (.map (es.push { key := .int .i64 n, val := v, born := clock }) (clock + 1))) := by
  have hb : (w.alloc (.map es clock)).heap[w.heap.size]? = some (.map es clock) := by show (w.heap.push _)[w.heap.size]? = _; simp
  have h1 := MapKept.run_getObj_map (P := P) hb
  have h2 := MapKept.run_checkKey (P := P) (w := w.alloc (.map es clock)) (k := .int .i64 n) hK (by trivial) false 9999
  have h3 := MapKept.run_findKey (P := P) (w := w.alloc (.map es clock)) hK h
  have h4 := MapKept.run_setObj_map (P := P) (.map (es.push { key := .int .i64 n, val := v, born := clock }) (clock + 1)) hb
  have h5 : ({ (w.alloc (.map es clock)) with heap := (w.alloc (.map es clock)).heap.setIfInBounds w.heap.size (.map (es.push { key := .int .i64 n, val := v, born := clock }) (clock + 1)) } : World) = w.alloc (.map (es.push { key := .int .i64 n, val := v, born := clock }) (clock + 1)) := by
    have e : (w.heap.push (Obj.map es clock)).setIfInBounds w.heap.size (.map (es.push { key := .int .i64 n, val := v, born := clock }) (clock + 1)) = w.heap.push (.map (es.push { key := .int .i64 n, val := v, born := clock }) (clock + 1)) := by
      apply Array.ext_getElem?
      intro i
      rw [Array.getElem?_setIfInBounds, Array.getElem?_push, Array.getElem?_push]
      by_cases h : w.heap.size = i
      · subst h; simp
      · simp [h, Ne.symm h]
    show ({ w with heap := _ } : World) = { w with heap := _ }
    exact congrArg (fun h => ({ w with heap := h } : World)) e
  simp only [Instr.mapUpdate, Sem.run_bind, run_underlying hT, Result.andThen, h1, h2, h3]
  rw [h4, h5]

theorem run_lookup_int {P : Program} {T kt et : TypeId} (hT : P.underlying T = some (.map kt et)) (hK : P.underlying kt = some (.int .i64)) {w : World} {r : Nat} {es : Array MapEntry} {clock : Nat} (hb : w.heap[r]? = some (.map es clock)) {n : Int} {i : Nat} {v : Value}
    (h : Instr.findNow (.int .i64) (.int .i64 n) es.toList 0 = some (some (i, v))) :
    (Instr.lookup T (.map (some r)) (.int .i64 n) false).run P w = .ok v w := by
  have h1 := MapKept.run_getObj_map (P := P) hb
  have h2 := MapKept.run_checkKey (P := P) (w := w) (k := .int .i64 n) hK (by trivial) es.isEmpty 9999
  have h3 := MapKept.run_findKey (P := P) (w := w) hK h
  simp [Instr.lookup, Sem.run_bind, run_underlying hT, Result.andThen, h1, h2, h3]

end Go.Proofs.YtepkfkfedmbmnaaGreatDoor

