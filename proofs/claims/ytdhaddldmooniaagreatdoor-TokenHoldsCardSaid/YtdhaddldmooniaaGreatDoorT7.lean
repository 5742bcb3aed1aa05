/- The keywords. -/
import Derived.Test.YtdhaddldmooniaaGreatDoorT6
import Derived.Deep.WholeRow
namespace Go.Proofs.YtdhaddldmooniaaGreatDoor
open Go.RowKit
set_option maxRecDepth 100000

def kwL : List (List UInt8) := [[115, 101, 108, 101, 99, 116], [100, 105, 115, 116, 105, 110, 99, 116], [102, 114, 111, 109], [106, 111, 105, 110], [111, 110], [119, 104, 101, 114, 101], [103, 114, 111, 117, 112], [98, 121], [104, 97, 118, 105, 110, 103], [111, 114, 100, 101, 114], [97, 115, 99], [100, 101, 115, 99], [108, 105, 109, 105, 116], [97, 115], [97, 110, 100], [111, 114], [110, 111, 116], [105, 115], [110, 117, 108, 108], [116, 114, 117, 101], [102, 97, 108, 115, 101], [99, 114, 101, 97, 116, 101], [116, 97, 98, 108, 101], [105, 110, 100, 101, 120], [117, 110, 105, 113, 117, 101], [112, 114, 105, 109, 97, 114, 121], [107, 101, 121], [99, 104, 101, 99, 107], [114, 101, 102, 101, 114, 101, 110, 99, 101, 115], [100, 101, 108, 101, 116, 101], [117, 112, 100, 97, 116, 101], [105, 110, 115, 101, 114, 116], [105, 110, 116, 111], [118, 97, 108, 117, 101, 115], [115, 101, 116], [99, 97, 115, 99, 97, 100, 101], [114, 101, 115, 116, 114, 105, 99, 116], [100, 101, 102, 97, 117, 108, 116], [118, 105, 101, 119], [119, 105, 116, 104], [99, 97, 115, 99, 97, 100, 101, 100], [108, 111, 99, 97, 108], [111, 112, 116, 105, 111, 110], [114, 117, 108, 101], [116, 111], [100, 111], [105, 110, 115, 116, 101, 97, 100], [100, 114, 111, 112], [109, 101, 114, 103, 101], [117, 115, 105, 110, 103], [119, 104, 101, 110], [109, 97, 116, 99, 104, 101, 100], [116, 104, 101, 110], [99, 111, 110, 102, 108, 105, 99, 116], [110, 111, 116, 104, 105, 110, 103], [114, 101, 116, 117, 114, 110, 105, 110, 103], [98, 101, 103, 105, 110], [99, 111, 109, 109, 105, 116], [114, 111, 108, 108, 98, 97, 99, 107], [115, 97, 118, 101, 112, 111, 105, 110, 116], [114, 101, 108, 101, 97, 115, 101]]
def kwC : Array Value := #[.string ⟨#[115, 101, 108, 101, 99, 116]⟩, .string ⟨#[100, 105, 115, 116, 105, 110, 99, 116]⟩, .string ⟨#[102, 114, 111, 109]⟩, .string ⟨#[106, 111, 105, 110]⟩, .string ⟨#[111, 110]⟩, .string ⟨#[119, 104, 101, 114, 101]⟩, .string ⟨#[103, 114, 111, 117, 112]⟩, .string ⟨#[98, 121]⟩, .string ⟨#[104, 97, 118, 105, 110, 103]⟩, .string ⟨#[111, 114, 100, 101, 114]⟩, .string ⟨#[97, 115, 99]⟩, .string ⟨#[100, 101, 115, 99]⟩, .string ⟨#[108, 105, 109, 105, 116]⟩, .string ⟨#[97, 115]⟩, .string ⟨#[97, 110, 100]⟩, .string ⟨#[111, 114]⟩, .string ⟨#[110, 111, 116]⟩, .string ⟨#[105, 115]⟩, .string ⟨#[110, 117, 108, 108]⟩, .string ⟨#[116, 114, 117, 101]⟩, .string ⟨#[102, 97, 108, 115, 101]⟩, .string ⟨#[99, 114, 101, 97, 116, 101]⟩, .string ⟨#[116, 97, 98, 108, 101]⟩, .string ⟨#[105, 110, 100, 101, 120]⟩, .string ⟨#[117, 110, 105, 113, 117, 101]⟩, .string ⟨#[112, 114, 105, 109, 97, 114, 121]⟩, .string ⟨#[107, 101, 121]⟩, .string ⟨#[99, 104, 101, 99, 107]⟩, .string ⟨#[114, 101, 102, 101, 114, 101, 110, 99, 101, 115]⟩, .string ⟨#[100, 101, 108, 101, 116, 101]⟩, .string ⟨#[117, 112, 100, 97, 116, 101]⟩, .string ⟨#[105, 110, 115, 101, 114, 116]⟩, .string ⟨#[105, 110, 116, 111]⟩, .string ⟨#[118, 97, 108, 117, 101, 115]⟩, .string ⟨#[115, 101, 116]⟩, .string ⟨#[99, 97, 115, 99, 97, 100, 101]⟩, .string ⟨#[114, 101, 115, 116, 114, 105, 99, 116]⟩, .string ⟨#[100, 101, 102, 97, 117, 108, 116]⟩, .string ⟨#[118, 105, 101, 119]⟩, .string ⟨#[119, 105, 116, 104]⟩, .string ⟨#[99, 97, 115, 99, 97, 100, 101, 100]⟩, .string ⟨#[108, 111, 99, 97, 108]⟩, .string ⟨#[111, 112, 116, 105, 111, 110]⟩, .string ⟨#[114, 117, 108, 101]⟩, .string ⟨#[116, 111]⟩, .string ⟨#[100, 111]⟩, .string ⟨#[105, 110, 115, 116, 101, 97, 100]⟩, .string ⟨#[100, 114, 111, 112]⟩, .string ⟨#[109, 101, 114, 103, 101]⟩, .string ⟨#[117, 115, 105, 110, 103]⟩, .string ⟨#[119, 104, 101, 110]⟩, .string ⟨#[109, 97, 116, 99, 104, 101, 100]⟩, .string ⟨#[116, 104, 101, 110]⟩, .string ⟨#[99, 111, 110, 102, 108, 105, 99, 116]⟩, .string ⟨#[110, 111, 116, 104, 105, 110, 103]⟩, .string ⟨#[114, 101, 116, 117, 114, 110, 105, 110, 103]⟩, .string ⟨#[98, 101, 103, 105, 110]⟩, .string ⟨#[99, 111, 109, 109, 105, 116]⟩, .string ⟨#[114, 111, 108, 108, 98, 97, 99, 107]⟩, .string ⟨#[115, 97, 118, 101, 112, 111, 105, 110, 116]⟩, .string ⟨#[114, 101, 108, 101, 97, 115, 101]⟩]
def kwZ : Array Value := #[.string ⟨#[]⟩, .string ⟨#[]⟩, .string ⟨#[]⟩, .string ⟨#[]⟩, .string ⟨#[]⟩, .string ⟨#[]⟩, .string ⟨#[]⟩, .string ⟨#[]⟩, .string ⟨#[]⟩, .string ⟨#[]⟩, .string ⟨#[]⟩, .string ⟨#[]⟩, .string ⟨#[]⟩, .string ⟨#[]⟩, .string ⟨#[]⟩, .string ⟨#[]⟩, .string ⟨#[]⟩, .string ⟨#[]⟩, .string ⟨#[]⟩, .string ⟨#[]⟩, .string ⟨#[]⟩, .string ⟨#[]⟩, .string ⟨#[]⟩, .string ⟨#[]⟩, .string ⟨#[]⟩, .string ⟨#[]⟩, .string ⟨#[]⟩, .string ⟨#[]⟩, .string ⟨#[]⟩, .string ⟨#[]⟩, .string ⟨#[]⟩, .string ⟨#[]⟩, .string ⟨#[]⟩, .string ⟨#[]⟩, .string ⟨#[]⟩, .string ⟨#[]⟩, .string ⟨#[]⟩, .string ⟨#[]⟩, .string ⟨#[]⟩, .string ⟨#[]⟩, .string ⟨#[]⟩, .string ⟨#[]⟩, .string ⟨#[]⟩, .string ⟨#[]⟩, .string ⟨#[]⟩, .string ⟨#[]⟩, .string ⟨#[]⟩, .string ⟨#[]⟩, .string ⟨#[]⟩, .string ⟨#[]⟩, .string ⟨#[]⟩, .string ⟨#[]⟩, .string ⟨#[]⟩, .string ⟨#[]⟩, .string ⟨#[]⟩, .string ⟨#[]⟩, .string ⟨#[]⟩, .string ⟨#[]⟩, .string ⟨#[]⟩, .string ⟨#[]⟩, .string ⟨#[]⟩]
theorem kwInfo : (Tryz.prog.info? 71).map (·.size) = some 61 := by kernel_rfl
set_option maxHeartbeats 1000000 in
theorem keywords_any (w : World) : Calls Tryz.prog 30 #[] w fun e w' => e = .returned (.agg kwC) ∧ w' = w.alloc (.cells kwC 71) := by
  have hst := fun (w : World) => run_storeAt_new (P := Tryz.prog) w 71 kwZ kwC kwInfo rfl (by kernel_rfl)
  have hzv : ∀ w, (zeroValue 71).run Tryz.prog w = .ok (.agg kwZ) w := fun _ => by kernel_rfl
  go_enter Tryz.func30, Tryz.ntmps30
  go_wp2_with (first
    | (refine wpList_build rfl 71 _ rfl (by kernel_rfl) ?_)
    | (refine wpList_store_row rfl 71 (.tmp 0) (.tmp 1) rfl w.heap.size kwC rfl (by kernel_rfl) 71 kwZ (heap_new w _) kwInfo rfl (by kernel_rfl) ?_))
  have hW : ((w.alloc (.cells kwZ 71)).setRow w.heap.size kwC) = w.alloc (.cells kwC 71) := World.setRow_alloc_new w kwZ kwC 71
  refine bodyPost_ret (v := .agg kwC) (results_cell_row (p := 0) (ty := 71) rfl _ _ w.heap.size 71 kwC (0, 0) (.array 61 9) rfl ?_ (by kernel_rfl) rfl kwInfo) rfl ⟨rfl, hW⟩
  exact (congrArg (fun W : World => W.heap[w.heap.size]?) hW).trans (heap_new w _)

/-- Is a word a keyword? -/
def kwB (x : List UInt8) : Bool := kwL.contains x
theorem kw_get : ∀ j, j < 61 → kwC[j]? = some (S (kwL.getD j []))
  | 0, _ => rfl
  | 1, _ => rfl
  | 2, _ => rfl
  | 3, _ => rfl
  | 4, _ => rfl
  | 5, _ => rfl
  | 6, _ => rfl
  | 7, _ => rfl
  | 8, _ => rfl
  | 9, _ => rfl
  | 10, _ => rfl
  | 11, _ => rfl
  | 12, _ => rfl
  | 13, _ => rfl
  | 14, _ => rfl
  | 15, _ => rfl
  | 16, _ => rfl
  | 17, _ => rfl
  | 18, _ => rfl
  | 19, _ => rfl
  | 20, _ => rfl
  | 21, _ => rfl
  | 22, _ => rfl
  | 23, _ => rfl
  | 24, _ => rfl
  | 25, _ => rfl
  | 26, _ => rfl
  | 27, _ => rfl
  | 28, _ => rfl
  | 29, _ => rfl
  | 30, _ => rfl
  | 31, _ => rfl
  | 32, _ => rfl
  | 33, _ => rfl
  | 34, _ => rfl
  | 35, _ => rfl
  | 36, _ => rfl
  | 37, _ => rfl
  | 38, _ => rfl
  | 39, _ => rfl
  | 40, _ => rfl
  | 41, _ => rfl
  | 42, _ => rfl
  | 43, _ => rfl
  | 44, _ => rfl
  | 45, _ => rfl
  | 46, _ => rfl
  | 47, _ => rfl
  | 48, _ => rfl
  | 49, _ => rfl
  | 50, _ => rfl
  | 51, _ => rfl
  | 52, _ => rfl
  | 53, _ => rfl
  | 54, _ => rfl
  | 55, _ => rfl
  | 56, _ => rfl
  | 57, _ => rfl
  | 58, _ => rfl
  | 59, _ => rfl
  | 60, _ => rfl
  | n + 61, h => absurd h (by omega)
def kwA : List ByteArray := kwL.map fun x => ⟨x.toArray⟩
theorem kwA_get (j : Nat) (h : j < kwA.length) : kwC[j]? = some (.string (kwA.getD j ByteArray.empty)) := by
  have h61 : j < 61 := h
  rw [kw_get j h61]
  unfold kwA
  have : j < kwL.length := h61
  simp [List.getD_eq_getElem?_getD, this]
theorem containsS_kw (x : List UInt8) : Lib.containsS (kwA.take 61) ⟨x.toArray⟩ = kwB x := by
  have e : kwA.take 61 = kwA := List.take_of_length_le (Nat.le_of_eq rfl)
  rw [Bool.eq_iff_iff, e, Lib.containsS_iff]
  unfold kwB kwA
  simp

set_option maxHeartbeats 1000000 in
theorem Keyword_any (x : List UInt8) (w : World) : Calls Tryz.prog 18 #[S x] w fun e w' => e = .returned (.bool (kwB x)) ∧ Bl w w' := by
  have HR := Lib.hid (containsS_kw x)
  have hzv : ∀ w, (zeroValue 71).run Tryz.prog w = .ok (.agg kwZ) w := fun _ => by kernel_rfl
  go_enter Tryz.func18, Tryz.ntmps18
  go_wp2_with fail
  (with_reducible refine (keywords_any _).mono ?_)
  rintro e w1 ⟨rfl, rfl⟩
  have HC : Hid (∀ j, j < kwA.length → ((w.alloc (.cells kwC 71)).alloc (.cells kwC 71)).cell? ⟨w.heap.size + 1, 0 + j, none⟩ = some (.string (kwA.getD j ByteArray.empty))) := by
    intro j hj
    rw [Lib.cell_of_heap (heap_new' _ _ (by simp)), Nat.zero_add]
    exact kwA_get j hj
  go_wp2_with (first
    | (refine wpList_store_row rfl 71 (.tmp 3) (.tmp 4) rfl (w.heap.size + 1) kwC rfl rfl 71 kwZ (heap_new' _ _ (by simp)) kwInfo rfl (by kernel_rfl) ?_))
  have hW : (((w.alloc (.cells kwC 71)).alloc (.cells kwZ 71)).setRow (w.heap.size + 1) kwC) = (w.alloc (.cells kwC 71)).alloc (.cells kwC 71) := by
    have := World.setRow_alloc_new (w.alloc (.cells kwC 71)) kwZ kwC 71
    rw [World.size_alloc] at this
    exact this
  rw [hW]
  (with_reducible refine (Tryz.slices_Contains_string (w.heap.size + 1) 0 61 61 kwA ⟨x.toArray⟩ _ (Nat.le_of_eq rfl) (by omega) HC.out).mono ?_)
  rintro e w' ⟨rfl, rfl⟩
  rw [HR.out]
  go_wp2
  go_ret
  exact ⟨rfl, ((Bl.refl w).alloc _).alloc _⟩

end Go.Proofs.YtdhaddldmooniaaGreatDoor
