/- What value.caught and value.Check do. -/
import Derived.Test.YtpojlnpbadcnaaaGreatDoorV1
import Derived.Lib.Hide
namespace Go.Proofs.YtpojlnpbadcnaaaGreatDoor
open Go.RowKit
set_option maxRecDepth 100000

set_option maxHeartbeats 400000 in
/-- caught, of a frame that returns: nothing. -/
theorem caught_idle (p : Addr) (g : Value) (w : World) :
    CallsD Tryz.prog 34 #[.pointer (some p), g] .returning w fun e u' w' => e = .returned (.tuple #[]) ∧ u' = .returning ∧ w = w' := by
  refine callsD_of_wpS Tryz.func34 rfl fun c₀ cs hu => ?_
  apply wpS_seq
  apply wpS_region
  simp [wpOpsS, go_sem, recoverD, hu, Tryz.ntmps34, Exit.thenS]
  refine wpS_of_wp ?_
  go_wp2
  cases c₀
  simp_all [bodyPostS, results, Tryz.results34]

set_option maxHeartbeats 400000 in
/-- caught, of a frame that panics with an error: it is laid, and clear is called. -/
theorem caught_panic (p : Addr) (x n : Int) (g : FuncId) (first cap args : Array Value) (ha : first ++ cap = args) (w : World) (R : World → Prop) (hc : w.cell? p = some (.int .i64 x)) (hz : w.frozen? p = false)
    (hg : ∀ (args : Array Value) (w : World), (callFunc g args).run Tryz.prog w = .ok (.enter g args) w)
    (hclear : Calls Tryz.prog g args (w.setCell p (.int .i64 n)) fun e w' => e = .returned (.tuple #[]) ∧ R w') :
    CallsD Tryz.prog 34 #[.pointer (some p), .func (.func g) first cap] (.panicking [{ v := .iface 26 (.int .i64 n), recovered := false }]) w fun e u' w' =>
      e = .returned (.tuple #[]) ∧ u' = .panicking [{ v := .iface 26 (.int .i64 n), recovered := true }] ∧ R w' := by
  subst ha
  refine callsD_of_wpS Tryz.func34 rfl fun c₀ cs hu => ?_
  apply wpS_seq
  apply wpS_region
  simp [wpOpsS, go_sem, recoverD, hu, Tryz.ntmps34, Exit.thenS]
  refine wpS_of_wp ?_
  have H := Lib.hid hclear
  clear hclear
  have hta : ∀ w, (Instr.typeAssert (.iface 26 (.int .i64 n)) 20 26 false).run Tryz.prog w = .ok (.int .i64 n) w := fun _ => by kernel_rfl
  rw [show ∀ a b x : Value, #[a, b] ++ (((Array.replicate 12 undef).setIfInBounds 3 x).setIfInBounds 2 x) = #[a, b, undef, undef, x, x, undef, undef, undef, undef, undef, undef, undef, undef] from fun _ _ _ => rfl]
  go_wp2_with fail
  refine H.out.mono ?_
  rintro e w' ⟨rfl, hR⟩
  go_wp2_with fail
  cases c₀
  simp_all [bodyPostS, results, Tryz.results34]

theorem check1 (w : World) : Calls Tryz.prog 51 #[] w fun e w' => e = .returned (.tuple #[]) ∧ w = w' := by
  go_enter Tryz.func51, Tryz.ntmps51
  go_wp2
  go_end0
  exact ⟨rfl, rfl⟩

theorem enters_Check1 (args : Array Value) (w : World) : (callFunc 51 args).run Tryz.prog w = .ok (.enter 51 args) w := by
  simp [go_sem]

theorem right_ok {k n : Int} {l : List UInt8} (w : World) (h : chk k n l = 0) : Calls Tryz.prog 36 #[V k n l] w fun e w' => e = .returned (.tuple #[]) ∧ Below w.heap.size w w' :=
  (right_any k n l w).mono fun e w' ⟨he, hb⟩ => ⟨by rw [he, h]; rfl, hb⟩
theorem right_no {k n : Int} {l : List UInt8} (w : World) (h : ¬ chk k n l = 0) : Calls Tryz.prog 36 #[V k n l] w fun e w' => e = .panicked [{ v := .iface 26 (.int .i64 (chk k n l)), recovered := false }] ∧ Below w.heap.size w w' :=
  (right_any k n l w).mono fun e w' ⟨he, hb⟩ => ⟨by rw [he]; simp [endOf, h, panics], hb⟩

set_option maxHeartbeats 400000 in
theorem Check_ok (k n : Int) (l : List UInt8) (w : World) (h : chk k n l = 0) : Calls Tryz.prog 19 #[V k n l] w fun e w' => e = .returned (.int .i64 0) ∧ Below w.heap.size w w' := by
  have H := Lib.hid h
  clear h
  go_enter_defers Tryz.func19, Tryz.ntmps19
  go_wp2_with fail
  refine (right_ok _ H.out).mono ?_
  rintro e w' ⟨rfl, hb⟩
  have hc := hb.cell (p := ⟨w.heap.size + 1, 0, none⟩) (by simp)
  have hz := hb.frozen (p := ⟨w.heap.size + 1, 0, none⟩) (by simp)
  simp [go_sem] at hc hz
  go_wp2_with fail
  refine leaves_cons (f := 34) (args := #[.pointer (some ⟨w.heap.size + 1, 0, none⟩), .func (.func 51) #[] #[]]) (by simp) (by simp [go_sem]) ?_
  refine (caught_idle _ _ _).mono ?_
  rintro e u' w'' ⟨rfl, rfl, rfl⟩
  refine ⟨.int .i64 0, ?_, rfl, ((((Below.refl _ _).alloc (Nat.le_refl _) _).alloc (by simp) _).trans (hb.mono (by simp; omega))).setCell (by simp) _⟩
  simp [results, Tryz.results19, go_sem, hc]

set_option maxHeartbeats 400000 in
theorem Check_no (k n : Int) (l : List UInt8) (w : World) (h : ¬ chk k n l = 0) : Calls Tryz.prog 19 #[V k n l] w fun e w' => e = .returned (.int .i64 (chk k n l)) ∧ Below w.heap.size w w' := by
  have H := Lib.hid h
  clear h
  go_enter_defers Tryz.func19, Tryz.ntmps19
  go_wp2_with fail
  refine (right_no _ H.out).mono ?_
  rintro e w' ⟨rfl, hb⟩
  have hc := hb.cell (p := ⟨w.heap.size + 1, 0, none⟩) (by simp)
  have hz := hb.frozen (p := ⟨w.heap.size + 1, 0, none⟩) (by simp)
  simp [go_sem] at hc hz
  go_wp2_with fail
  refine leaves_cons (f := 34) (args := #[.pointer (some ⟨w.heap.size + 1, 0, none⟩), .func (.func 51) #[] #[]]) (by simp) (by simp [go_sem]) ?_
  have h1 := (check1 (w'.setCell ⟨w.heap.size + 1, 0, none⟩ (.int .i64 (chk k n l)))).mono (R' := fun e w1 => e = .returned (.tuple #[]) ∧ w1 = w'.setCell ⟨w.heap.size + 1, 0, none⟩ (.int .i64 (chk k n l))) fun e w1 ⟨he, hw⟩ => ⟨he, hw.symm⟩
  have h3 := caught_panic ⟨w.heap.size + 1, 0, none⟩ 0 (chk k n l) 51 #[] #[] #[] (by simp) w' (fun w1 => w1 = w'.setCell ⟨w.heap.size + 1, 0, none⟩ (.int .i64 (chk k n l))) hc hz enters_Check1 h1
  refine h3.mono ?_
  rintro e u' w'' ⟨rfl, rfl, rfl⟩
  refine ⟨.int .i64 (chk k n l), ?_, rfl, ((((Below.refl _ _).alloc (Nat.le_refl _) _).alloc (by simp) _).trans (hb.mono (by simp; omega))).setCell (by simp) _⟩
  simp [results, Tryz.results19, go_sem, hc]

theorem Check_any (k n : Int) (l : List UInt8) (w : World) : Calls Tryz.prog 19 #[V k n l] w fun e w' => e = .returned (.int .i64 (chk k n l)) ∧ Below w.heap.size w w' := by
  by_cases h : chk k n l = 0
  · have := Check_ok k n l w h
    rw [h]; exact this
  · exact Check_no k n l w h

end Go.Proofs.YtpojlnpbadcnaaaGreatDoor
