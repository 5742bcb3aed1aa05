/- Package token: signs, found, the third beginning, begins. -/
import Derived.Test.YtdhaddldmooniaaGreatDoorT3
import Derived.Shelf.SlicesE.IndexFunc
namespace Go.Proofs.YtdhaddldmooniaaGreatDoor
open Go.RowKit Go.Shelf
set_option maxRecDepth 100000

theorem Bl.drewN (w : World) (q : Nat) : Bl w (w.drewN q) := ⟨rfl, rfl, rfl, Nat.le_refl _, fun _ _ => rfl⟩

def signC : Array Value := (signL.map fun x => S x).toArray

theorem tsigns_any (w : World) : Calls Tryz.prog 63 #[] w fun e w' => e = .returned (.slice (some ⟨w.heap.size, 0, none⟩) 17 17) ∧ w' = w.alloc (.cells signC 9) := by
  go_enter Tryz.func63, Tryz.ntmps63
  go_wp2
  go_ret
  exact ⟨rfl, rfl⟩

theorem tbegins31_any (x l : List UInt8) (B : Nat) (W : World) (hB : W.cell? ⟨B, 0, none⟩ = some (S l)) : Calls Tryz.prog 64 #[S x, .pointer (some ⟨B, 0, none⟩)] W fun e w' => e = .returned (.bool (Lib.hasPrefix l x)) ∧ W = w' := by
  go_enter Tryz.func64, Tryz.ntmps64
  go_wp2_with fail
  refine (HasPrefix_L l x _).mono ?_
  rintro e w' ⟨rfl, rfl⟩
  go_wp2
  go_ret
  exact ⟨rfl, rfl⟩
theorem enters_tbegins31 (args : Array Value) (w : World) : (callFunc 64 args).run Tryz.prog w = .ok (.enter 64 args) w := by
  simp [go_sem]

theorem idx_find (p : List UInt8 → Bool) (d : List UInt8) : ∀ (zs : List (List UInt8)) (i : Nat), (zs.find? p = none ∧ Lib.idxByFrom (fun _ y => p y) d zs i = -1) ∨ ∃ k, k < zs.length ∧ Lib.idxByFrom (fun _ y => p y) d zs i = ((i + k : Nat) : Int) ∧ zs.find? p = some zs[k]!
  | [], i => .inl ⟨rfl, rfl⟩
  | z :: zs, i => by
    by_cases hz : p z = true
    · exact .inr ⟨0, by simp, by simp [Lib.idxByFrom, hz], by simp [List.find?_cons, hz]⟩
    · rcases idx_find p d zs (i + 1) with ⟨h1, h2⟩ | ⟨k, hk, h1, h2⟩
      · exact .inl ⟨by simp [List.find?_cons, hz, h1], by simp [Lib.idxByFrom, hz, h2]⟩
      · exact .inr ⟨k + 1, by simp; omega, by simp only [Lib.idxByFrom, hz]; rw [h1]; simp; omega, by simp [List.find?_cons, hz, h2]⟩

set_option maxHeartbeats 1000000 in
theorem tfound_any (l : List UInt8) (b B : Nat) (w : World) (hc : ∀ j, j < signL.length → w.cell? ⟨b, 0 + j, none⟩ = some (S signL[j]!)) (hB : w.cell? ⟨B, 0, none⟩ = some (S l)) :
    Calls Tryz.prog 62 #[.slice (some ⟨b, 0, none⟩) 17 17, .func (.func 64) #[] #[.pointer (some ⟨B, 0, none⟩)]] w fun e w' => (∃ f, e = .returned (.tuple #[S (signOf l), .bool f])) ∧ Bl w w' := by
  have HC := Lib.hid hc
  clear hc
  have hp : PredAt Tryz.prog 64 #[.pointer (some ⟨B, 0, none⟩)] (fun x : List UInt8 => S x) (fun x => Lib.hasPrefix l x) w := fun W x hb =>
    (tbegins31_any x l B W (Bl.cell hb hB)).mono fun e w' ⟨he, hw⟩ => ⟨he, 0, hw.symm⟩
  have HP := Lib.hid hp
  clear hp
  go_enter Tryz.func62, Tryz.ntmps62
  go_wp2_with fail
  refine (Tryz.slices_IndexFunc (fun x : List UInt8 => S x) (fun x => Lib.hasPrefix l x) 64 #[.pointer (some ⟨B, 0, none⟩)] enters_tbegins31 b 0 17 17 signL _ HP.out (by decide) (by decide) HC.out).mono ?_
  rintro e w' ⟨rfl, q, rfl⟩
  rcases idx_find (fun x => Lib.hasPrefix l x) default signL 0 with ⟨h1, h2⟩ | ⟨k, hk, h1, h2⟩
  · rw [show Lib.idxBy (fun _ y => Lib.hasPrefix l y) (signL.take 17) default = -1 from h2]
    have HS : Hid (signOf l = []) := by show signOf l = []; unfold signOf; rw [h1]; rfl
    clear h1 h2
    go_wp2
    go_ret2
    exact ⟨⟨_, by rw [HS.out]; rfl⟩, Bl.drewN _ _⟩
  · rw [show Lib.idxBy (fun _ y => Lib.hasPrefix l y) (signL.take 17) default = ((k : Nat) : Int) by rw [show ((k : Nat) : Int) = ((0 + k : Nat) : Int) by simp]; exact h1]
    have hk17 : k < 17 := hk
    have HS : Hid (signOf l = signL[k]!) := by show signOf l = signL[k]!; unfold signOf; rw [h2]; rfl
    have hcell : (w.drewN q).cell? ⟨b, k, none⟩ = some (S signL[k]!) := by
      have := HC.out k hk
      rw [Nat.zero_add] at this
      exact this
    clear h1 h2 hk
    generalize signL[k]! = x at *
    go_wp2
    go_ret2
    exact ⟨⟨_, by rw [HS.out]; rfl⟩, Bl.drewN _ _⟩

theorem signC_get : ∀ j, j < 17 → signC[j]? = some (S signL[j]!)
  | 0, _ => rfl
  | 1, _ => rfl
  | 2, _ => rfl
  | 3, _ => rfl
  | 4, _ => rfl
  | 5, _ => rfl
  | 6, _ => rfl
  | 7, _ => rfl
  | 8, _ => rfl
  | 9, _ => rfl
  | 10, _ => rfl
  | 11, _ => rfl
  | 12, _ => rfl
  | 13, _ => rfl
  | 14, _ => rfl
  | 15, _ => rfl
  | 16, _ => rfl
  | n + 17, h => absurd h (by omega)
theorem signC_at (w : World) (b : Nat) (hb : b = w.heap.size) : ∀ j, j < signL.length → (w.alloc (.cells signC 9)).cell? ⟨b, 0 + j, none⟩ = some (S signL[j]!) := by
  intro j hj
  subst hb
  rw [Lib.cell_of_heap (heap_new w _), Nat.zero_add]
  exact signC_get j hj

set_option maxHeartbeats 1000000 in
theorem tbegins3_any (l : List UInt8) (hl : l.length ≤ 1000000) (w : World) : Calls Tryz.prog 61 #[S l] w fun e w' => e = endN (some (signOf l).length) ∧ Bl w w' := by
  have hmf : ∀ (fn : Fn) (first cap : Array Value) (w : World), (Instr.makeFunc fn first cap).run Tryz.prog w = .ok (.func fn first cap) w := fun _ _ _ _ => rfl
  have HC := Lib.hid (signC_at (w.alloc (.cells #[S l] 9)) (w.heap.size + 1) (by simp))
  have HL : Hid (((w.alloc (.cells #[S l] 9)).alloc (.cells signC 9)).cell? ⟨w.heap.size, 0, none⟩ = some (S l)) := by
    show _ = _
    rw [Lib.cell_of_heap ((heap_old _ _ (by simp)).trans (heap_new w _))]
    rfl
  go_enter Tryz.func61, Tryz.ntmps61
  go_wp2_with fail
  refine (tsigns_any _).mono ?_
  rintro e w' ⟨rfl, rfl⟩
  go_wp2_with fail
  (with_reducible refine (tfound_any l (w.heap.size + 1) w.heap.size _ HC.out HL.out).mono ?_)
  rintro e w2 ⟨⟨f, rfl⟩, hb⟩
  go_wp2
  go_ret
  exact ⟨rfl, (((Bl.refl w).alloc _).alloc _).call hb⟩

abbrev bAll : Array MapEntry := #[lE 1 58 0, lE 2 59 1, lE 3 61 2]
def beginF (k : Int) : FuncId := if k = 1 then 58 else if k = 2 then 59 else 61
theorem bins0 (w : World) : (Instr.mapUpdate 89 (.map (some w.heap.size)) (.int .i64 1) (.func (.func 58) #[] #[])).run Tryz.prog (w.alloc (.map #[] 0)) = .ok () (w.alloc (.map #[lE 1 58 0] 1)) :=
  run_insert_int Tryz.underlying89 Tryz.underlying29 w #[] 0 1 _ rfl
theorem bins1 (w : World) : (Instr.mapUpdate 89 (.map (some w.heap.size)) (.int .i64 2) (.func (.func 59) #[] #[])).run Tryz.prog (w.alloc (.map #[lE 1 58 0] 1)) = .ok () (w.alloc (.map #[lE 1 58 0, lE 2 59 1] 2)) :=
  run_insert_int Tryz.underlying89 Tryz.underlying29 w #[lE 1 58 0] 1 2 _ rfl
theorem bins2 (w : World) : (Instr.mapUpdate 89 (.map (some w.heap.size)) (.int .i64 3) (.func (.func 61) #[] #[])).run Tryz.prog (w.alloc (.map #[lE 1 58 0, lE 2 59 1] 2)) = .ok () (w.alloc (.map bAll 3)) :=
  run_insert_int Tryz.underlying89 Tryz.underlying29 w #[lE 1 58 0, lE 2 59 1] 2 3 _ rfl
theorem tbegins_any (w : World) : Calls Tryz.prog 48 #[] w fun e w' => e = .returned (.map (some w.heap.size)) ∧ w' = w.alloc (.map bAll 3) := by
  have hmm := @run_makeMap Tryz.prog
  have h0 := bins0
  have h1 := bins1
  have h2 := bins2
  go_enter Tryz.func48, Tryz.ntmps48
  go_wp2
  go_ret
  exact ⟨rfl, rfl⟩
theorem look_begins {w : World} {r : Nat} (hb : w.heap[r]? = some (.map bAll 3)) {k : Int} (h0 : 1 ≤ k) (h4 : k ≤ 3) :
    (Instr.lookup 89 (.map (some r)) (.int .i64 k) false).run Tryz.prog w = .ok (.func (.func (beginF k)) #[] #[]) w := by
  have hk : k = 1 ∨ k = 2 ∨ k = 3 := by omega
  rcases hk with rfl | rfl | rfl
  · exact run_lookup_int Tryz.underlying89 Tryz.underlying29 hb (i := 0) rfl
  · exact run_lookup_int Tryz.underlying89 Tryz.underlying29 hb (i := 1) rfl
  · exact run_lookup_int Tryz.underlying89 Tryz.underlying29 hb (i := 2) rfl
theorem enters_beginF (k : Int) (args : Array Value) (w : World) : (callFunc (beginF k) args).run Tryz.prog w = .ok (.enter (beginF k) args) w := by
  unfold beginF
  split
  · simp [go_sem]
  split
  · simp [go_sem]
  · simp [go_sem]
def blen (k : Nat) (l : List UInt8) : Option Nat := if k = 1 then wlen l else if k = 2 then vlen l else some (signOf l).length
theorem beginF_any (k : Nat) (l : List UInt8) (h1 : 1 ≤ l.length) (hl : l.length ≤ 1000000) (hk : 1 ≤ k ∧ k ≤ 3) (w : World) : Calls Tryz.prog (beginF k) #[S l] w fun e w' => e = endN (blen k l) ∧ Bl w w' := by
  obtain rfl | rfl | rfl : k = 1 ∨ k = 2 ∨ k = 3 := by omega
  · exact tbegins1_any l h1 hl w
  · exact tbegins2_any l h1 hl w
  · exact tbegins3_any l hl w

end Go.Proofs.YtdhaddldmooniaaGreatDoor
