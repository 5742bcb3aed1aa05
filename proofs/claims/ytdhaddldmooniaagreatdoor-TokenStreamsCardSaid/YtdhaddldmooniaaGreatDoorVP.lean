/- value.Parse. -/
import Derived.Test.YtdhaddldmooniaaGreatDoorVR
namespace Go.Proofs.YtdhaddldmooniaaGreatDoor
open Go.RowKit
set_option maxRecDepth 100000

/-- What a literal is parsed as: kind, number, text, error. -/
def parseV (s : List UInt8) : Int × Int × List UInt8 × Int := match readV s with
  | some (k, n, l) => if chk k n l = 0 then (k, n, l, 0) else (0, 0, [], chk k n l)
  | none => (0, 0, [], 110)

theorem Parse1_any (b : Nat) (x y z : Value) (w : World) (h : w.heap[b]? = some (.cells #[x, y, z] 32 (0, 0))) : Calls Tryz.prog 66 #[.pointer (some ⟨b, 0, none⟩)] w fun e w' => e = .returned (.tuple #[]) ∧ w' = ((w.setCell ⟨b, 0, none⟩ (.int .i64 0)).setCell ⟨b, 1, none⟩ (.int .i64 0)).setCell ⟨b, 2, none⟩ (.string ⟨#[]⟩) := by
  have r0 : w.cell? ⟨b, 0, none⟩ = some x := by rw [Lib.cell_of_heap h]; rfl
  have r1 : w.cell? ⟨b, 1, none⟩ = some y := by rw [Lib.cell_of_heap h]; rfl
  have r2 : w.cell? ⟨b, 2, none⟩ = some z := by rw [Lib.cell_of_heap h]; rfl
  have z0 := Lib.frozen_of_heap h 0
  have z1 := Lib.frozen_of_heap h 1
  have z2 := Lib.frozen_of_heap h 2
  go_enter Tryz.func66, Tryz.ntmps66
  go_wp2
  go_end0
  exact ⟨rfl, rfl⟩
theorem enters_Parse1 (args : Array Value) (w : World) : (callFunc 66 args).run Tryz.prog w = .ok (.enter 66 args) w := by
  simp [go_sem]

theorem read_some {s : List UInt8} {k n : Int} {l : List UInt8} (hs : s.length ≤ 10000) (h : readV s = some (k, n, l)) (w : World) (hG : Glob w) : Calls Tryz.prog 67 #[S s] w fun e w' => e = .returned (V k n l) ∧ Bl w w' :=
  (read_any s hs w hG).mono fun e w' ⟨he, hb⟩ => ⟨by rw [he]; simp [readEnd, h], hb⟩
theorem read_none {s : List UInt8} (hs : s.length ≤ 10000) (h : readV s = none) (w : World) (hG : Glob w) : Calls Tryz.prog 67 #[S s] w fun e w' => e = .panicked [{ v := .iface 25 (.int .i64 110), recovered := false }] ∧ Bl w w' :=
  (read_any s hs w hG).mono fun e w' ⟨he, hb⟩ => ⟨by rw [he]; simp [readEnd, h], hb⟩

theorem heap_set3 (w : World) (b : Nat) (x y z x' y' z' : Value) (t : TypeId) (h : w.heap[b]? = some (.cells #[x, y, z] t (0, 0))) :
    (((w.setCell ⟨b, 0, none⟩ x').setCell ⟨b, 1, none⟩ y').setCell ⟨b, 2, none⟩ z').heap[b]? = some (.cells #[x', y', z'] t (0, 0)) := by
  simp [World.setCell, Array.getElem?_modify, h]
theorem heap_set_other (w : World) (p : Addr) (v : Value) (k : Nat) (h : k ≠ p.block) : (w.setCell p v).heap[k]? = w.heap[k]? := Below.heap_setCell _ _ _ _ h

set_option maxHeartbeats 1000000 in
theorem Parse_none (s : List UInt8) (hs : s.length ≤ 10000) (h : readV s = none) (w : World) (hG : Glob w) :
    Calls Tryz.prog 49 #[S s] w fun e w' => e = .returned (.tuple #[V 0 0 [], .int .i64 110]) ∧ Bl w w' := by
  have H := Lib.hid h
  clear h
  have hmf : ∀ (fn : Fn) (first cap : Array Value) (w : World), (Instr.makeFunc fn first cap).run Tryz.prog w = .ok (.func fn first cap) w := fun _ _ _ _ => rfl
  go_enter_defers Tryz.func49, Tryz.ntmps49
  go_wp2_with fail
  refine (read_none hs H.out _ ((hG.alloc _).alloc _)).mono ?_
  rintro e w1 ⟨rfl, hb⟩
  have hb1 : Bl w w1 := (((Bl.refl w).alloc _).alloc _).call hb
  have hA : w1.heap[w.heap.size]? = some (.cells #[.int .i64 0, .int .i64 0, .string ⟨#[]⟩] 32 (0, 0)) := by
    rw [hb.block _ (by simp; omega), heap_old _ _ (by simp), heap_new]
  have hE : w1.heap[w.heap.size + 1]? = some (.cells #[.int .i64 0] 25 (0, 0)) := by
    rw [hb.block _ (by simp), heap_new' _ _ (by simp)]
  have c4 : w1.cell? ⟨w.heap.size + 1, 0, none⟩ = some (.int .i64 0) := by rw [Lib.cell_of_heap hE]; rfl
  have f4 := Lib.frozen_of_heap hE 0
  go_wp2_with fail
  refine leaves_cons (f := 65) (args := #[.pointer (some ⟨w.heap.size + 1, 0, none⟩), .func (.func 66) #[] #[.pointer (some ⟨w.heap.size, 0, none⟩)]]) (by simp) (by simp [go_sem]) ?_
  have hA' : (w1.setCell ⟨w.heap.size + 1, 0, none⟩ (.int .i64 110)).heap[w.heap.size]? = some (.cells #[.int .i64 0, .int .i64 0, .string ⟨#[]⟩] 32 (0, 0)) := (heap_set_other _ _ _ _ (by simp)).trans hA
  have hL := Parse1_any w.heap.size _ _ _ (w1.setCell ⟨w.heap.size + 1, 0, none⟩ (.int .i64 110)) hA'
  have hP := caught_panic ⟨w.heap.size + 1, 0, none⟩ 0 110 66 #[] #[.pointer (some ⟨w.heap.size, 0, none⟩)] #[.pointer (some ⟨w.heap.size, 0, none⟩)] (by simp) w1 _ c4 f4 enters_Parse1 hL
  refine hP.mono ?_
  rintro e u' w'' ⟨rfl, rfl, rfl⟩
  have hV := heap_set3 _ _ _ _ _ (.int .i64 0) (.int .i64 0) (.string ⟨#[]⟩) _ hA'
  have hE1 : (w1.setCell ⟨w.heap.size + 1, 0, none⟩ (.int .i64 110)).cell? ⟨w.heap.size + 1, 0, none⟩ = some (.int .i64 110) := set_same c4
  have q3 := set_apart (p := ⟨w.heap.size, 2, none⟩) (u := .string ⟨#[]⟩) (set_apart (p := ⟨w.heap.size, 1, none⟩) (u := .int .i64 0) (set_apart (p := ⟨w.heap.size, 0, none⟩) (u := .int .i64 0) hE1 (by simp)) (by simp)) (by simp)
  have hbW := (((hb1.set (p := ⟨w.heap.size + 1, 0, none⟩) (by simp) (.int .i64 110)).set (p := ⟨w.heap.size, 0, none⟩) (by simp) (.int .i64 0)).set (p := ⟨w.heap.size, 1, none⟩) (by simp) (.int .i64 0)).set (p := ⟨w.heap.size, 2, none⟩) (by simp) (.string ⟨#[]⟩)
  clear hP hL
  generalize (((w1.setCell ⟨w.heap.size + 1, 0, none⟩ (.int .i64 110)).setCell ⟨w.heap.size, 0, none⟩ (.int .i64 0)).setCell ⟨w.heap.size, 1, none⟩ (.int .i64 0)).setCell ⟨w.heap.size, 2, none⟩ (.string ⟨#[]⟩) = W at *
  have q0 : W.cell? ⟨w.heap.size, 0, none⟩ = some (.int .i64 0) := by rw [Lib.cell_of_heap hV]; rfl
  have q1 : W.cell? ⟨w.heap.size, 1, none⟩ = some (.int .i64 0) := by rw [Lib.cell_of_heap hV]; rfl
  have q2 : W.cell? ⟨w.heap.size, 2, none⟩ = some (S []) := by rw [Lib.cell_of_heap hV]; rfl
  refine ⟨.tuple #[V 0 0 [], .int .i64 110], ?_, rfl, hbW⟩
  simp [results, Tryz.results49, go_sem, q0, q1, q2, q3]

set_option maxHeartbeats 1000000 in
theorem Parse_some (s : List UInt8) (hs : s.length ≤ 10000) (k n : Int) (l : List UInt8) (h : readV s = some (k, n, l)) (hc : chk k n l = 0) (w : World) (hG : Glob w) :
    Calls Tryz.prog 49 #[S s] w fun e w' => e = .returned (.tuple #[V k n l, .int .i64 0]) ∧ Bl w w' := by
  have H := Lib.hid h
  have HC := Lib.hid hc
  clear h hc
  have hmf : ∀ (fn : Fn) (first cap : Array Value) (w : World), (Instr.makeFunc fn first cap).run Tryz.prog w = .ok (.func fn first cap) w := fun _ _ _ _ => rfl
  go_enter_defers Tryz.func49, Tryz.ntmps49
  go_wp2_with fail
  refine (read_some hs H.out _ ((hG.alloc _).alloc _)).mono ?_
  rintro e w1 ⟨rfl, hb⟩
  have hb1 : Bl w w1 := (((Bl.refl w).alloc _).alloc _).call hb
  have hA : w1.heap[w.heap.size]? = some (.cells #[.int .i64 0, .int .i64 0, .string ⟨#[]⟩] 32 (0, 0)) := by
    rw [hb.block _ (by simp; omega), heap_old _ _ (by simp), heap_new]
  have hE : w1.heap[w.heap.size + 1]? = some (.cells #[.int .i64 0] 25 (0, 0)) := by
    rw [hb.block _ (by simp), heap_new' _ _ (by simp)]
  have hV1 := heap_set3 _ _ _ _ _ (.int .i64 k) (.int .i64 n) (.string ⟨l.toArray⟩) _ hA
  have hE1 := ((heap_set_other ((w1.setCell ⟨w.heap.size, 0, none⟩ (.int .i64 k)).setCell ⟨w.heap.size, 1, none⟩ (.int .i64 n)) ⟨w.heap.size, 2, none⟩ (.string ⟨l.toArray⟩) (w.heap.size + 1) (by simp)).trans ((heap_set_other (w1.setCell ⟨w.heap.size, 0, none⟩ (.int .i64 k)) ⟨w.heap.size, 1, none⟩ (.int .i64 n) (w.heap.size + 1) (by simp)).trans (heap_set_other w1 ⟨w.heap.size, 0, none⟩ (.int .i64 k) (w.heap.size + 1) (by simp)))).trans hE
  have hb2 := ((hb1.set (p := ⟨w.heap.size, 0, none⟩) (by simp) (.int .i64 k)).set (p := ⟨w.heap.size, 1, none⟩) (by simp) (.int .i64 n)).set (p := ⟨w.heap.size, 2, none⟩) (by simp) (.string ⟨l.toArray⟩)
  have r0 : w1.cell? ⟨w.heap.size, 0, none⟩ = some (.int .i64 0) := by rw [Lib.cell_of_heap hA]; rfl
  have r1 : w1.cell? ⟨w.heap.size, 1, none⟩ = some (.int .i64 0) := by rw [Lib.cell_of_heap hA]; rfl
  have r2 : w1.cell? ⟨w.heap.size, 2, none⟩ = some (.string ⟨#[]⟩) := by rw [Lib.cell_of_heap hA]; rfl
  have z0 := Lib.frozen_of_heap hA 0
  have z1 := Lib.frozen_of_heap hA 1
  have z2 := Lib.frozen_of_heap hA 2
  go_wp2_with fail
  clear r0 r1 r2 z0 z1 z2
  generalize ((w1.setCell ⟨w.heap.size, 0, none⟩ (.int .i64 k)).setCell ⟨w.heap.size, 1, none⟩ (.int .i64 n)).setCell ⟨w.heap.size, 2, none⟩ (.string ⟨l.toArray⟩) = W2 at *
  clear hA hE hb
  have hlA : w.heap.size < W2.heap.size := (Array.getElem?_eq_some_iff.1 hV1).1
  have hlE : w.heap.size + 1 < W2.heap.size := (Array.getElem?_eq_some_iff.1 hE1).1
  refine (right_ok _ HC.out).mono ?_
  rintro e w3 ⟨rfl, hb3⟩
  have hV3 := (hb3.block _ hlA).trans hV1
  have hE3 := (hb3.block _ hlE).trans hE1
  have hbw3 := hb2.call hb3
  have r0 : w3.cell? ⟨w.heap.size, 0, none⟩ = some (.int .i64 k) := by rw [Lib.cell_of_heap hV3]; rfl
  have r1 : w3.cell? ⟨w.heap.size, 1, none⟩ = some (.int .i64 n) := by rw [Lib.cell_of_heap hV3]; rfl
  have r2 : w3.cell? ⟨w.heap.size, 2, none⟩ = some (.string ⟨l.toArray⟩) := by rw [Lib.cell_of_heap hV3]; rfl
  have r3 : w3.cell? ⟨w.heap.size + 1, 0, none⟩ = some (.int .i64 0) := by rw [Lib.cell_of_heap hE3]; rfl
  have z0 := Lib.frozen_of_heap hV3 0
  have z1 := Lib.frozen_of_heap hV3 1
  have z2 := Lib.frozen_of_heap hV3 2
  have z3 := Lib.frozen_of_heap hE3 0
  clear hb2 hb1 hV1 hE1
  go_wp2_with fail
  refine leaves_cons (f := 65) (args := #[.pointer (some ⟨w.heap.size + 1, 0, none⟩), .func (.func 66) #[] #[.pointer (some ⟨w.heap.size, 0, none⟩)]]) (by simp) (by simp [go_sem]) ?_
  refine (caught_idle _ _ _).mono ?_
  rintro e u' w'' ⟨rfl, rfl, rfl⟩
  have hV := (heap_set_other _ ⟨w.heap.size + 1, 0, none⟩ (.int .i64 0) w.heap.size (by simp)).trans (heap_set3 _ _ _ _ _ (.int .i64 k) (.int .i64 n) (.string ⟨l.toArray⟩) _ hV3)
  have q3 := set_same (u := .int .i64 0) (set_apart (p := ⟨w.heap.size, 2, none⟩) (u := .string ⟨l.toArray⟩) (set_apart (p := ⟨w.heap.size, 1, none⟩) (u := .int .i64 n) (set_apart (p := ⟨w.heap.size, 0, none⟩) (u := .int .i64 k) r3 (by simp)) (by simp)) (by simp))
  have hbW := (((hbw3.set (p := ⟨w.heap.size, 0, none⟩) (by simp) (.int .i64 k)).set (p := ⟨w.heap.size, 1, none⟩) (by simp) (.int .i64 n)).set (p := ⟨w.heap.size, 2, none⟩) (by simp) (.string ⟨l.toArray⟩)).set (p := ⟨w.heap.size + 1, 0, none⟩) (by simp) (.int .i64 0)
  generalize (((w3.setCell ⟨w.heap.size, 0, none⟩ (.int .i64 k)).setCell ⟨w.heap.size, 1, none⟩ (.int .i64 n)).setCell ⟨w.heap.size, 2, none⟩ (.string ⟨l.toArray⟩)).setCell ⟨w.heap.size + 1, 0, none⟩ (.int .i64 0) = W at *
  have q0 : W.cell? ⟨w.heap.size, 0, none⟩ = some (.int .i64 k) := by rw [Lib.cell_of_heap hV]; rfl
  have q1 : W.cell? ⟨w.heap.size, 1, none⟩ = some (.int .i64 n) := by rw [Lib.cell_of_heap hV]; rfl
  have q2 : W.cell? ⟨w.heap.size, 2, none⟩ = some (S l) := by rw [Lib.cell_of_heap hV]; rfl
  refine ⟨.tuple #[V k n l, .int .i64 0], ?_, rfl, hbW⟩
  simp [results, Tryz.results49, go_sem, q0, q1, q2, q3]

set_option maxHeartbeats 1000000 in
theorem Parse_bad (s : List UInt8) (hs : s.length ≤ 10000) (k n : Int) (l : List UInt8) (h : readV s = some (k, n, l)) (hc : ¬ chk k n l = 0) (w : World) (hG : Glob w) :
    Calls Tryz.prog 49 #[S s] w fun e w' => e = .returned (.tuple #[V 0 0 [], .int .i64 (chk k n l)]) ∧ Bl w w' := by
  have H := Lib.hid h
  have HC := Lib.hid hc
  clear h hc
  have hmf : ∀ (fn : Fn) (first cap : Array Value) (w : World), (Instr.makeFunc fn first cap).run Tryz.prog w = .ok (.func fn first cap) w := fun _ _ _ _ => rfl
  go_enter_defers Tryz.func49, Tryz.ntmps49
  go_wp2_with fail
  refine (read_some hs H.out _ ((hG.alloc _).alloc _)).mono ?_
  rintro e w1 ⟨rfl, hb⟩
  have hb1 : Bl w w1 := (((Bl.refl w).alloc _).alloc _).call hb
  have hA : w1.heap[w.heap.size]? = some (.cells #[.int .i64 0, .int .i64 0, .string ⟨#[]⟩] 32 (0, 0)) := by
    rw [hb.block _ (by simp; omega), heap_old _ _ (by simp), heap_new]
  have hE : w1.heap[w.heap.size + 1]? = some (.cells #[.int .i64 0] 25 (0, 0)) := by
    rw [hb.block _ (by simp), heap_new' _ _ (by simp)]
  have hV1 := heap_set3 _ _ _ _ _ (.int .i64 k) (.int .i64 n) (.string ⟨l.toArray⟩) _ hA
  have hE1 := ((heap_set_other ((w1.setCell ⟨w.heap.size, 0, none⟩ (.int .i64 k)).setCell ⟨w.heap.size, 1, none⟩ (.int .i64 n)) ⟨w.heap.size, 2, none⟩ (.string ⟨l.toArray⟩) (w.heap.size + 1) (by simp)).trans ((heap_set_other (w1.setCell ⟨w.heap.size, 0, none⟩ (.int .i64 k)) ⟨w.heap.size, 1, none⟩ (.int .i64 n) (w.heap.size + 1) (by simp)).trans (heap_set_other w1 ⟨w.heap.size, 0, none⟩ (.int .i64 k) (w.heap.size + 1) (by simp)))).trans hE
  have hb2 := ((hb1.set (p := ⟨w.heap.size, 0, none⟩) (by simp) (.int .i64 k)).set (p := ⟨w.heap.size, 1, none⟩) (by simp) (.int .i64 n)).set (p := ⟨w.heap.size, 2, none⟩) (by simp) (.string ⟨l.toArray⟩)
  have r0 : w1.cell? ⟨w.heap.size, 0, none⟩ = some (.int .i64 0) := by rw [Lib.cell_of_heap hA]; rfl
  have r1 : w1.cell? ⟨w.heap.size, 1, none⟩ = some (.int .i64 0) := by rw [Lib.cell_of_heap hA]; rfl
  have r2 : w1.cell? ⟨w.heap.size, 2, none⟩ = some (.string ⟨#[]⟩) := by rw [Lib.cell_of_heap hA]; rfl
  have z0 := Lib.frozen_of_heap hA 0
  have z1 := Lib.frozen_of_heap hA 1
  have z2 := Lib.frozen_of_heap hA 2
  go_wp2_with fail
  clear r0 r1 r2 z0 z1 z2
  generalize ((w1.setCell ⟨w.heap.size, 0, none⟩ (.int .i64 k)).setCell ⟨w.heap.size, 1, none⟩ (.int .i64 n)).setCell ⟨w.heap.size, 2, none⟩ (.string ⟨l.toArray⟩) = W2 at *
  clear hA hE hb
  have hlA : w.heap.size < W2.heap.size := (Array.getElem?_eq_some_iff.1 hV1).1
  have hlE : w.heap.size + 1 < W2.heap.size := (Array.getElem?_eq_some_iff.1 hE1).1
  refine (right_no _ HC.out).mono ?_
  rintro e w3 ⟨rfl, hb3⟩
  have hV3 := (hb3.block _ hlA).trans hV1
  have hE3 := (hb3.block _ hlE).trans hE1
  have hbw3 := hb2.call hb3
  have c4 : w3.cell? ⟨w.heap.size + 1, 0, none⟩ = some (.int .i64 0) := by rw [Lib.cell_of_heap hE3]; rfl
  have f4 := Lib.frozen_of_heap hE3 0
  clear hb2 hb1 hV1 hE1
  go_wp2_with fail
  refine leaves_cons (f := 65) (args := #[.pointer (some ⟨w.heap.size + 1, 0, none⟩), .func (.func 66) #[] #[.pointer (some ⟨w.heap.size, 0, none⟩)]]) (by simp) (by simp [go_sem]) ?_
  generalize chk k n l = c at *
  have hA' : (w3.setCell ⟨w.heap.size + 1, 0, none⟩ (.int .i64 c)).heap[w.heap.size]? = some (.cells #[.int .i64 k, .int .i64 n, .string ⟨l.toArray⟩] 32 (0, 0)) := (heap_set_other _ _ _ _ (by simp)).trans hV3
  have hL := Parse1_any w.heap.size _ _ _ (w3.setCell ⟨w.heap.size + 1, 0, none⟩ (.int .i64 c)) hA'
  have hP := caught_panic ⟨w.heap.size + 1, 0, none⟩ 0 c 66 #[] #[.pointer (some ⟨w.heap.size, 0, none⟩)] #[.pointer (some ⟨w.heap.size, 0, none⟩)] (by simp) w3 _ c4 f4 enters_Parse1 hL
  refine hP.mono ?_
  rintro e u' w'' ⟨rfl, rfl, rfl⟩
  have hV := heap_set3 _ _ _ _ _ (.int .i64 0) (.int .i64 0) (.string ⟨#[]⟩) _ hA'
  have hE2 : (w3.setCell ⟨w.heap.size + 1, 0, none⟩ (.int .i64 c)).cell? ⟨w.heap.size + 1, 0, none⟩ = some (.int .i64 c) := set_same c4
  have q3 := set_apart (p := ⟨w.heap.size, 2, none⟩) (u := .string ⟨#[]⟩) (set_apart (p := ⟨w.heap.size, 1, none⟩) (u := .int .i64 0) (set_apart (p := ⟨w.heap.size, 0, none⟩) (u := .int .i64 0) hE2 (by simp)) (by simp)) (by simp)
  have hbW := (((hbw3.set (p := ⟨w.heap.size + 1, 0, none⟩) (by simp) (.int .i64 c)).set (p := ⟨w.heap.size, 0, none⟩) (by simp) (.int .i64 0)).set (p := ⟨w.heap.size, 1, none⟩) (by simp) (.int .i64 0)).set (p := ⟨w.heap.size, 2, none⟩) (by simp) (.string ⟨#[]⟩)
  clear hP hL
  generalize (((w3.setCell ⟨w.heap.size + 1, 0, none⟩ (.int .i64 c)).setCell ⟨w.heap.size, 0, none⟩ (.int .i64 0)).setCell ⟨w.heap.size, 1, none⟩ (.int .i64 0)).setCell ⟨w.heap.size, 2, none⟩ (.string ⟨#[]⟩) = W at *
  have q0 : W.cell? ⟨w.heap.size, 0, none⟩ = some (.int .i64 0) := by rw [Lib.cell_of_heap hV]; rfl
  have q1 : W.cell? ⟨w.heap.size, 1, none⟩ = some (.int .i64 0) := by rw [Lib.cell_of_heap hV]; rfl
  have q2 : W.cell? ⟨w.heap.size, 2, none⟩ = some (S []) := by rw [Lib.cell_of_heap hV]; rfl
  refine ⟨.tuple #[V 0 0 [], .int .i64 c], ?_, rfl, hbW⟩
  simp [results, Tryz.results49, go_sem, q0, q1, q2, q3]

theorem Parse_any (s : List UInt8) (hs : s.length ≤ 10000) (w : World) (hG : Glob w) :
    Calls Tryz.prog 49 #[S s] w fun e w' => e = .returned (.tuple #[V (parseV s).1 (parseV s).2.1 (parseV s).2.2.1, .int .i64 (parseV s).2.2.2]) ∧ Bl w w' := by
  cases h : readV s with
  | none =>
    have e : parseV s = (0, 0, [], 110) := by simp [parseV, h]
    rw [e]; exact Parse_none s hs h w hG
  | some x =>
    obtain ⟨k, n, l⟩ := x
    by_cases hc : chk k n l = 0
    · have e : parseV s = (k, n, l, 0) := by simp [parseV, h, hc]
      rw [e]; exact Parse_some s hs k n l h hc w hG
    · have e : parseV s = (0, 0, [], chk k n l) := by simp [parseV, h, hc]
      rw [e]; exact Parse_bad s hs k n l h hc w hG

end Go.Proofs.YtdhaddldmooniaaGreatDoor
