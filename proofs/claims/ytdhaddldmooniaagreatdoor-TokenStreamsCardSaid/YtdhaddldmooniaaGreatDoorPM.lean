/- Maps keyed by integers that a call makes and fills from a literal: what an insert and a look-up come to. -/
import Derived.Test.YtdhaddldmooniaaGreatDoorP0
import Derived.MapKept
namespace Go.Proofs.YtdhaddldmooniaaGreatDoor
open Go.RowKit

theorem run_insert_int {P : Program} {T kt et : TypeId} (hT : P.underlying T = some (.map kt et)) (hK : P.underlying kt = some (.int .i64)) (w : World) (es : Array MapEntry) (clock : Nat) (n : Int) (v : Value)
    (h : Instr.findNow (.int .i64) (.int .i64 n) es.toList 0 = some none) :
    (Instr.mapUpdate T (.map (some w.heap.size)) (.int .i64 n) v).run P (w.alloc (.map es clock)) = .ok () (w.alloc (.map (es.push { key := .int .i64 n, val := v, born := clock }) (clock + 1))) := by
  have hb : (w.alloc (.map es clock)).heap[w.heap.size]? = some (.map es clock) := by show (w.heap.push _)[w.heap.size]? = _; simp
  have h1 := MapKept.run_getObj_map (P := P) hb
  have h2 := MapKept.run_checkKey (P := P) (w := w.alloc (.map es clock)) (k := .int .i64 n) hK (by trivial) false 9999
  have h3 := MapKept.run_findKey (P := P) (w := w.alloc (.map es clock)) hK h
  have h4 := MapKept.run_setObj_map (P := P) (.map (es.push { key := .int .i64 n, val := v, born := clock }) (clock + 1)) hb
  have h5 : ({ (w.alloc (.map es clock)) with heap := (w.alloc (.map es clock)).heap.setIfInBounds w.heap.size (.map (es.push { key := .int .i64 n, val := v, born := clock }) (clock + 1)) } : World) = w.alloc (.map (es.push { key := .int .i64 n, val := v, born := clock }) (clock + 1)) := by
    have e : (w.heap.push (Obj.map es clock)).setIfInBounds w.heap.size (.map (es.push { key := .int .i64 n, val := v, born := clock }) (clock + 1)) = w.heap.push (.map (es.push { key := .int .i64 n, val := v, born := clock }) (clock + 1)) := by
      apply Array.ext_getElem?
      intro i
      rw [Array.getElem?_setIfInBounds, Array.getElem?_push, Array.getElem?_push]
      by_cases h : w.heap.size = i
      · subst h; simp
      · simp [h, Ne.symm h]
    show ({ w with heap := _ } : World) = { w with heap := _ }
    exact congrArg (fun h => ({ w with heap := h } : World)) e
  simp only [Instr.mapUpdate, Sem.run_bind, run_underlying hT, Result.andThen, h1, h2, h3]
  rw [h4, h5]

theorem run_lookup_int {P : Program} {T kt et : TypeId} (hT : P.underlying T = some (.map kt et)) (hK : P.underlying kt = some (.int .i64)) {w : World} {r : Nat} {es : Array MapEntry} {clock : Nat} (hb : w.heap[r]? = some (.map es clock)) {n : Int} {i : Nat} {v : Value}
    (h : Instr.findNow (.int .i64) (.int .i64 n) es.toList 0 = some (some (i, v))) :
    (Instr.lookup T (.map (some r)) (.int .i64 n) false).run P w = .ok v w := by
  have h1 := MapKept.run_getObj_map (P := P) hb
  have h2 := MapKept.run_checkKey (P := P) (w := w) (k := .int .i64 n) hK (by trivial) es.isEmpty 9999
  have h3 := MapKept.run_findKey (P := P) (w := w) hK h
  simp [Instr.lookup, Sem.run_bind, run_underlying hT, Result.andThen, h1, h2, h3]

end Go.Proofs.YtdhaddldmooniaaGreatDoor
