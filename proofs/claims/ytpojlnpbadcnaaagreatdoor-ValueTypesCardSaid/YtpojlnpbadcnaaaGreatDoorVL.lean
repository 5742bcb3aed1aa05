/- value.Literal. -/
import Derived.Test.YtpojlnpbadcnaaaGreatDoorV2
import Derived.Test.YtpojlnpbadcnaaaGreatDoorVG
import Derived.Deep.RegionHeld3
namespace Go.Proofs.YtpojlnpbadcnaaaGreatDoor
open Go.RowKit
set_option maxRecDepth 100000

theorem chk_cases {k n : Int} {l : List UInt8} (h : chk k n l = 0) : l.length ≤ 1000 ∧ 0 ≤ k ∧ k ≤ 4 := by
  unfold chk at h
  split at h
  · cases h
  · split at h
    · refine ⟨by omega, ?_, ?_⟩ <;> omega
    · cases h

theorem tells_any (k n : Int) (l : List UInt8) (h : chk k n l = 0) (h0 : -9223372036854775808 ≤ n) (h1 : n ≤ 9223372036854775807) (w : World) (hG : Glob w) :
    Calls Tryz.prog (laidF k) #[V k n l] w fun e w' => e = .returned (S (lit k n l)) ∧ Bl w w' := by
  obtain ⟨hl, k0, k4⟩ := chk_cases h
  have hk : k = 0 ∨ k = 1 ∨ k = 2 ∨ k = 3 ∨ k = 4 := by omega
  rcases hk with rfl | rfl | rfl | rfl | rfl
  · exact laid1_any 0 n l w
  · exact laid2_any 1 n l w
  · exact laid3_any 2 n l h0 h1 w hG
  · exact laid4_any 3 n l hl w hG
  · exact laid5_any 4 n l hl w

theorem enters_laidF (k : Int) (args : Array Value) (w : World) : (callFunc (laidF k) args).run Tryz.prog w = .ok (.enter (laidF k) args) w := by
  unfold laidF
  split
  · simp [go_sem]
  split
  · simp [go_sem]
  split
  · simp [go_sem]
  split
  · simp [go_sem]
  · simp [go_sem]

theorem Literal1_any (p : Addr) (v : Value) (w : World) (hc : w.cell? p = some v) (hz : w.frozen? p = false) : Calls Tryz.prog 35 #[.pointer (some p)] w fun e w' => e = .returned (.tuple #[]) ∧ w' = w.setCell p (S []) := by
  go_enter Tryz.func35, Tryz.ntmps35
  go_wp2
  go_end0
  exact ⟨rfl, rfl⟩
theorem enters_Literal1 (args : Array Value) (w : World) : (callFunc 35 args).run Tryz.prog w = .ok (.enter 35 args) w := by
  simp [go_sem]

set_option maxHeartbeats 1000000 in
theorem Literal_ok (k n : Int) (l : List UInt8) (h : chk k n l = 0) (h0 : -9223372036854775808 ≤ n) (h1 : n ≤ 9223372036854775807) (w : World) (hG : Glob w) :
    Calls Tryz.prog 10 #[V k n l] w fun e w' => e = .returned (.tuple #[S (lit k n l), .int .i64 0]) ∧ Bl w w' := by
  have H := Lib.hid h
  clear h
  have hmf : ∀ (fn : Fn) (first cap : Array Value) (w : World), (Instr.makeFunc fn first cap).run Tryz.prog w = .ok (.func fn first cap) w := fun _ _ _ _ => rfl
  go_enter_defers Tryz.func10, Tryz.ntmps10
  go_wp2_with fail
  refine (right_ok _ H.out).mono ?_
  rintro e w1 ⟨rfl, hb⟩
  have hb1 : Bl w w1 := ((((Bl.refl w).alloc _).alloc _).alloc _).call hb
  obtain ⟨hcl, hfz⟩ := bcell hb
  have c0 := hcl w.heap.size 0 (by simp; omega)
  have c1 := hcl w.heap.size 1 (by simp; omega)
  have c2 := hcl w.heap.size 2 (by simp; omega)
  have c3 := hcl (w.heap.size + 1) 0 (by simp)
  have c4 := hcl (w.heap.size + 1 + 1) 0 (by simp)
  have f3 := hfz (w.heap.size + 1) 0 (by simp)
  have f4 := hfz (w.heap.size + 1 + 1) 0 (by simp)
  simp [go_sem] at c0 c1 c2 c3 c4 f3 f4
  clear hcl hfz
  obtain ⟨_, k0, k4⟩ := chk_cases H.out
  have hlook : (Instr.lookup 69 (.map (some w1.heap.size)) (.int .i64 k) false).run Tryz.prog ((w1.alloc (.map lAll 5)).drew) = .ok (.func (.func (laidF k)) #[] #[]) ((w1.alloc (.map lAll 5)).drew) :=
    look_laid (w := (w1.alloc (.map lAll 5)).drew) (heap_new w1 (.map lAll 5)) k0 k4
  have hen := enters_laidF k
  have hbW : Bl w1 ((w1.alloc (.map lAll 5)).drew) := ((Bl.refl w1).alloc _).drew
  have hG2 := (hG.bl hb1).bl hbW
  clear k0 k4
  go_wp2_with fail
  go_region_held3 (fun w' => w'.cell? ⟨w.heap.size, 0, none⟩ = some (.int .i64 k) ∧ w'.cell? ⟨w.heap.size, 1, none⟩ = some (.int .i64 n) ∧ w'.cell? ⟨w.heap.size, 2, none⟩ = some (S l)) (first | exact ⟨c0, c1, c2⟩ | exact ⟨d0, d1, d2⟩ | exact ⟨set_apart (set_apart d0 (by simp)) (by simp; omega), set_apart (set_apart d1 (by simp)) (by simp; omega), set_apart (set_apart d2 (by simp)) (by simp; omega)⟩ | go_keep)
    (first
      | (go_at_call 37; (with_reducible refine (laid_any _).mono ?_); rintro e w2 ⟨rfl, rfl⟩)
      | ((with_reducible refine (tells_any k n l H.out h0 h1 _ hG2).mono ?_); rintro e w3 ⟨rfl, hb3⟩; have d0 := Bl.cell hb3 (Bl.cell hbW c0); have d1 := Bl.cell hb3 (Bl.cell hbW c1); have d2 := Bl.cell hb3 (Bl.cell hbW c2); have d3 := Bl.cell hb3 (Bl.cell hbW c3); have d4 := Bl.cell hb3 (Bl.cell hbW c4); have g3 := Bl.frozen hb3 (Bl.cell hbW c3) (Bl.frozen hbW c3 f3); have g4 := Bl.frozen hb3 (Bl.cell hbW c4) (Bl.frozen hbW c4 f4)))
  go_wp2_with fail
  refine leaves_cons (f := 34) (args := #[.pointer (some ⟨w.heap.size + 1 + 1, 0, none⟩), .func (.func 35) #[] #[.pointer (some ⟨w.heap.size + 1, 0, none⟩)]]) (by simp) (by simp [go_sem]) ?_
  refine (caught_idle _ _ _).mono ?_
  rintro e u' w'' ⟨rfl, rfl, rfl⟩
  have r1 := set_apart (p := ⟨w.heap.size + 1 + 1, 0, none⟩) (u := .int .i64 0) (set_same (u := S (lit k n l)) d3) (by simp)
  have r2 := set_same (u := .int .i64 0) (set_apart (p := ⟨w.heap.size + 1, 0, none⟩) (u := S (lit k n l)) d4 (by simp))
  refine ⟨.tuple #[S (lit k n l), .int .i64 0], ?_, rfl, ((hb1.call hbW).call hb3).set (by simp) _ |>.set (by simp; omega) _⟩
  simp [results, Tryz.results10, go_sem, r1, r2]

set_option maxHeartbeats 1000000 in
theorem Literal_no (k n : Int) (l : List UInt8) (h : ¬ chk k n l = 0) (w : World) :
    Calls Tryz.prog 10 #[V k n l] w fun e w' => e = .returned (.tuple #[S [], .int .i64 (chk k n l)]) ∧ Bl w w' := by
  have H := Lib.hid h
  clear h
  have hmf : ∀ (fn : Fn) (first cap : Array Value) (w : World), (Instr.makeFunc fn first cap).run Tryz.prog w = .ok (.func fn first cap) w := fun _ _ _ _ => rfl
  go_enter_defers Tryz.func10, Tryz.ntmps10
  go_wp2_with fail
  refine (right_no _ H.out).mono ?_
  rintro e w1 ⟨rfl, hb⟩
  have hb1 : Bl w w1 := ((((Bl.refl w).alloc _).alloc _).alloc _).call hb
  obtain ⟨hcl, hfz⟩ := bcell hb
  have c3 := hcl (w.heap.size + 1) 0 (by simp)
  have c4 := hcl (w.heap.size + 1 + 1) 0 (by simp)
  have f3 := hfz (w.heap.size + 1) 0 (by simp)
  have f4 := hfz (w.heap.size + 1 + 1) 0 (by simp)
  simp [go_sem] at c3 c4 f3 f4
  clear hcl hfz
  go_wp2_with fail
  refine leaves_cons (f := 34) (args := #[.pointer (some ⟨w.heap.size + 1 + 1, 0, none⟩), .func (.func 35) #[] #[.pointer (some ⟨w.heap.size + 1, 0, none⟩)]]) (by simp) (by simp [go_sem]) ?_
  have d3 := set_apart (p := ⟨w.heap.size + 1 + 1, 0, none⟩) (u := .int .i64 (chk k n l)) c3 (by simp)
  have g3 := set_apart_frozen (p := ⟨w.heap.size + 1 + 1, 0, none⟩) (u := .int .i64 (chk k n l)) f3
  have hL := Literal1_any ⟨w.heap.size + 1, 0, none⟩ _ (w1.setCell ⟨w.heap.size + 1 + 1, 0, none⟩ (.int .i64 (chk k n l))) d3 g3
  have hP := caught_panic ⟨w.heap.size + 1 + 1, 0, none⟩ 0 (chk k n l) 35 #[] #[.pointer (some ⟨w.heap.size + 1, 0, none⟩)] #[.pointer (some ⟨w.heap.size + 1, 0, none⟩)] (by simp) w1 _ c4 f4 enters_Literal1 hL
  refine hP.mono ?_
  rintro e u' w'' ⟨rfl, rfl, rfl⟩
  have r1 := set_same (u := S []) d3
  have r2 := set_apart (p := ⟨w.heap.size + 1, 0, none⟩) (u := S []) (set_same (u := .int .i64 (chk k n l)) c4) (by simp)
  refine ⟨.tuple #[S [], .int .i64 (chk k n l)], ?_, rfl, (hb1.set (by simp; omega) _).set (by simp) _⟩
  simp [results, Tryz.results10, go_sem, r1, r2]

end Go.Proofs.YtpojlnpbadcnaaaGreatDoor
