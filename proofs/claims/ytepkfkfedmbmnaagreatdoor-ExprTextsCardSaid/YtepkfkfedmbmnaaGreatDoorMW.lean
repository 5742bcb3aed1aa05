/- The keywords. loupelaw15: num, same. loupelaw15: works. -/
import Derived.Test.YtepkfkfedmbmnaaGreatDoorMT
import Derived.Deep.WholeRow
import Derived.BigRegion
import Derived.RegionTactic
import Derived.Laws.StructEq
namespace Go.Proofs.YtepkfkfedmbmnaaGreatDoor
open Go.RowKit
set_option maxRecDepth 100000

def kwL : List (List UInt8) := [[115, 101, 108, 101, 99, 116], [100, 105, 115, 116, 105, 110, 99, 116], [102, 114, 111, 109], [106, 111, 105, 110], [111, 110], [119, 104, 101, 114, 101], [103, 114, 111, 117, 112], [98, 121], [104, 97, 118, 105, 110, 103], [111, 114, 100, 101, 114], [97, 115, 99], [100, 101, 115, 99], [108, 105, 109, 105, 116], [97, 115], [97, 110, 100], [111, 114], [110, 111, 116], [105, 115], [110, 117, 108, 108], [116, 114, 117, 101], [102, 97, 108, 115, 101], [99, 114, 101, 97, 116, 101], [116, 97, 98, 108, 101], [105, 110, 100, 101, 120], [117, 110, 105, 113, 117, 101], [112, 114, 105, 109, 97, 114, 121], [107, 101, 121], [99, 104, 101, 99, 107], [114, 101, 102, 101, 114, 101, 110, 99, 101, 115], [100, 101, 108, 101, 116, 101], [117, 112, 100, 97, 116, 101], [105, 110, 115, 101, 114, 116], [105, 110, 116, 111], [118, 97, 108, 117, 101, 115], [115, 101, 116], [99, 97, 115, 99, 97, 100, 101], [114, 101, 115, 116, 114, 105, 99, 116], [100, 101, 102, 97, 117, 108, 116], [118, 105, 101, 119], [119, 105, 116, 104], [99, 97, 115, 99, 97, 100, 101, 100], [108, 111, 99, 97, 108], [111, 112, 116, 105, 111, 110], [114, 117, 108, 101], [116, 111], [100, 111], [105, 110, 115, 116, 101, 97, 100], [100, 114, 111, 112], [109, 101, 114, 103, 101], [117, 115, 105, 110, 103], [119, 104, 101, 110], [109, 97, 116, 99, 104, 101, 100], [116, 104, 101, 110], [99, 111, 110, 102, 108, 105, 99, 116], [110, 111, 116, 104, 105, 110, 103], [114, 101, 116, 117, 114, 110, 105, 110, 103], [98, 101, 103, 105, 110], [99, 111, 109, 109, 105, 116], [114, 111, 108, 108, 98, 97, 99, 107], [115, 97, 118, 101, 112, 111, 105, 110, 116], [114, 101, 108, 101, 97, 115, 101]]
def kwC : Array Value := #[.string ⟨#[115, 101, 108, 101, 99, 116]⟩, .string ⟨#[100, 105, 115, 116, 105, 110, 99, 116]⟩, .string ⟨#[102, 114, 111, 109]⟩, .string ⟨#[106, 111, 105, 110]⟩, .string ⟨#[111, 110]⟩, .string ⟨#[119, 104, 101, 114, 101]⟩, .string ⟨#[103, 114, 111, 117, 112]⟩, .string ⟨#[98, 121]⟩, .string ⟨#[104, 97, 118, 105, 110, 103]⟩, .string ⟨#[111, 114, 100, 101, 114]⟩, .string ⟨#[97, 115, 99]⟩, .string ⟨#[100, 101, 115, 99]⟩, .string ⟨#[108, 105, 109, 105, 116]⟩, .string ⟨#[97, 115]⟩, .string ⟨#[97, 110, 100]⟩, .string ⟨#[111, 114]⟩, .string ⟨#[110, 111, 116]⟩, .string ⟨#[105, 115]⟩, .string ⟨#[110, 117, 108, 108]⟩, .string ⟨#[116, 114, 117, 101]⟩, .string ⟨#[102, 97, 108, 115, 101]⟩, .string ⟨#[99, 114, 101, 97, 116, 101]⟩, .string ⟨#[116, 97, 98, 108, 101]⟩, .string ⟨#[105, 110, 100, 101, 120]⟩, .string ⟨#[117, 110, 105, 113, 117, 101]⟩, .string ⟨#[112, 114, 105, 109, 97, 114, 121]⟩, .string ⟨#[107, 101, 121]⟩, .string ⟨#[99, 104, 101, 99, 107]⟩, .string ⟨#[114, 101, 102, 101, 114, 101, 110, 99, 101, 115]⟩, .string ⟨#[100, 101, 108, 101, 116, 101]⟩, .string ⟨#[117, 112, 100, 97, 116, 101]⟩, .string ⟨#[105, 110, 115, 101, 114, 116]⟩, .string ⟨#[105, 110, 116, 111]⟩, .string ⟨#[118, 97, 108, 117, 101, 115]⟩, .string ⟨#[115, 101, 116]⟩, .string ⟨#[99, 97, 115, 99, 97, 100, 101]⟩, .string ⟨#[114, 101, 115, 116, 114, 105, 99, 116]⟩, .string ⟨#[100, 101, 102, 97, 117, 108, 116]⟩, .string ⟨#[118, 105, 101, 119]⟩, .string ⟨#[119, 105, 116, 104]⟩, .string ⟨#[99, 97, 115, 99, 97, 100, 101, 100]⟩, .string ⟨#[108, 111, 99, 97, 108]⟩, .string ⟨#[111, 112, 116, 105, 111, 110]⟩, .string ⟨#[114, 117, 108, 101]⟩, .string ⟨#[116, 111]⟩, .string ⟨#[100, 111]⟩, .string ⟨#[105, 110, 115, 116, 101, 97, 100]⟩, .string ⟨#[100, 114, 111, 112]⟩, .string ⟨#[109, 101, 114, 103, 101]⟩, .string ⟨#[117, 115, 105, 110, 103]⟩, .string ⟨#[119, 104, 101, 110]⟩, .string ⟨#[109, 97, 116, 99, 104, 101, 100]⟩, .string ⟨#[116, 104, 101, 110]⟩, .string ⟨#[99, 111, 110, 102, 108, 105, 99, 116]⟩, .string ⟨#[110, 111, 116, 104, 105, 110, 103]⟩, .string ⟨#[114, 101, 116, 117, 114, 110, 105, 110, 103]⟩, .string ⟨#[98, 101, 103, 105, 110]⟩, .string ⟨#[99, 111, 109, 109, 105, 116]⟩, .string ⟨#[114, 111, 108, 108, 98, 97, 99, 107]⟩, .string ⟨#[115, 97, 118, 101, 112, 111, 105, 110, 116]⟩, .string ⟨#[114, 101, 108, 101, 97, 115, 101]⟩]
def kwZ : Array Value := #[.string ⟨#[]⟩, .string ⟨#[]⟩, .string ⟨#[]⟩, .string ⟨#[]⟩, .string ⟨#[]⟩, .string ⟨#[]⟩, .string ⟨#[]⟩, .string ⟨#[]⟩, .string ⟨#[]⟩, .string ⟨#[]⟩, .string ⟨#[]⟩, .string ⟨#[]⟩, .string ⟨#[]⟩, .string ⟨#[]⟩, .string ⟨#[]⟩, .string ⟨#[]⟩, .string ⟨#[]⟩, .string ⟨#[]⟩, .string ⟨#[]⟩, .string ⟨#[]⟩, .string ⟨#[]⟩, .string ⟨#[]⟩, .string ⟨#[]⟩, .string ⟨#[]⟩, .string ⟨#[]⟩, .string ⟨#[]⟩, .string ⟨#[]⟩, .string ⟨#[]⟩, .string ⟨#[]⟩, .string ⟨#[]⟩, .string ⟨#[]⟩, .string ⟨#[]⟩, .string ⟨#[]⟩, .string ⟨#[]⟩, .string ⟨#[]⟩, .string ⟨#[]⟩, .string ⟨#[]⟩, .string ⟨#[]⟩, .string ⟨#[]⟩, .string ⟨#[]⟩, .string ⟨#[]⟩, .string ⟨#[]⟩, .string ⟨#[]⟩, .string ⟨#[]⟩, .string ⟨#[]⟩, .string ⟨#[]⟩, .string ⟨#[]⟩, .string ⟨#[]⟩, .string ⟨#[]⟩, .string ⟨#[]⟩, .string ⟨#[]⟩, .string ⟨#[]⟩, .string ⟨#[]⟩, .string ⟨#[]⟩, .string ⟨#[]⟩, .string ⟨#[]⟩, .string ⟨#[]⟩, .string ⟨#[]⟩, .string ⟨#[]⟩, .string ⟨#[]⟩, .string ⟨#[]⟩]
theorem kwInfo : (Tryz.prog.info? 181).map (·.size) = some 61 := by kernel_rfl
set_option maxHeartbeats 1000000 in
theorem keywords_any (w : World) : Calls Tryz.prog 154 #[] w fun e w' => e = .returned (.agg kwC) ∧ w' = w.alloc (.cells kwC 181) := by
  have hst := fun (w : World) => run_storeAt_new (P := Tryz.prog) w 181 kwZ kwC kwInfo rfl (by kernel_rfl)
  have hzv : ∀ w, (zeroValue 181).run Tryz.prog w = .ok (.agg kwZ) w := fun _ => by kernel_rfl
  go_enter Tryz.func154, Tryz.ntmps154
  go_wp2_with (first
    | (refine wpList_build rfl 181 _ rfl (by kernel_rfl) ?_)
    | (refine wpList_store_row rfl 181 (.tmp 0) (.tmp 1) rfl w.heap.size kwC rfl (by kernel_rfl) 181 kwZ (heap_new w _) kwInfo rfl (by kernel_rfl) ?_))
  have hW : ((w.alloc (.cells kwZ 181)).setRow w.heap.size kwC) = w.alloc (.cells kwC 181) := World.setRow_alloc_new w kwZ kwC 181
  refine bodyPost_ret (v := .agg kwC) (results_cell_row (p := 0) (ty := 181) rfl _ _ w.heap.size 181 kwC (0, 0) (.array 61 9) rfl ?_ (by kernel_rfl) rfl kwInfo) rfl ⟨rfl, hW⟩
  exact (congrArg (fun W : World => W.heap[w.heap.size]?) hW).trans (heap_new w _)

/-- Is a word a keyword? -/
def kwB (x : List UInt8) : Bool := kwL.contains x
theorem kw_get : ∀ j, j < 61 → kwC[j]? = some (S (kwL.getD j []))
  | 0, _ => rfl
  | 1, _ => rfl
  | 2, _ => rfl
  | 3, _ => rfl
  | 4, _ => rfl
  | 5, _ => rfl
  | 6, _ => rfl
  | 7, _ => rfl
  | 8, _ => rfl
  | 9, _ => rfl
  | 10, _ => rfl
  | 11, _ => rfl
  | 12, _ => rfl
  | 13, _ => rfl
  | 14, _ => rfl
  | 15, _ => rfl
  | 16, _ => rfl
  | 17, _ => rfl
  | 18, _ => rfl
  | 19, _ => rfl
  | 20, _ => rfl
  | 21, _ => rfl
  | 22, _ => rfl
  | 23, _ => rfl
  | 24, _ => rfl
  | 25, _ => rfl
  | 26, _ => rfl
  | 27, _ => rfl
  | 28, _ => rfl
  | 29, _ => rfl
  | 30, _ => rfl
  | 31, _ => rfl
  | 32, _ => rfl
  | 33, _ => rfl
  | 34, _ => rfl
  | 35, _ => rfl
  | 36, _ => rfl
  | 37, _ => rfl
  | 38, _ => rfl
  | 39, _ => rfl
  | 40, _ => rfl
  | 41, _ => rfl
  | 42, _ => rfl
  | 43, _ => rfl
  | 44, _ => rfl
  | 45, _ => rfl
  | 46, _ => rfl
  | 47, _ => rfl
  | 48, _ => rfl
  | 49, _ => rfl
  | 50, _ => rfl
  | 51, _ => rfl
  | 52, _ => rfl
  | 53, _ => rfl
  | 54, _ => rfl
  | 55, _ => rfl
  | 56, _ => rfl
  | 57, _ => rfl
  | 58, _ => rfl
  | 59, _ => rfl
  | 60, _ => rfl
  | n + 61, h => absurd h (by omega)
def kwA : List ByteArray := kwL.map fun x => ⟨x.toArray⟩
theorem kwA_get (j : Nat) (h : j < kwA.length) : kwC[j]? = some (.string (kwA.getD j ByteArray.empty)) := by
  have h61 : j < 61 := h
  rw [kw_get j h61]
  unfold kwA
  have : j < kwL.length := h61
  simp [List.getD_eq_getElem?_getD, this]
theorem containsS_kw (x : List UInt8) : Lib.containsS (kwA.take 61) ⟨x.toArray⟩ = kwB x := by
  have e : kwA.take 61 = kwA := List.take_of_length_le (Nat.le_of_eq rfl)
  rw [Bool.eq_iff_iff, e, Lib.containsS_iff]
  unfold kwB kwA
  simp

set_option maxHeartbeats 1000000 in
theorem Keyword_any (x : List UInt8) (w : World) : Calls Tryz.prog 126 #[S x] w fun e w' => e = .returned (.bool (kwB x)) ∧ Bl w w' := by
  have HR := Lib.hid (containsS_kw x)
  have hzv : ∀ w, (zeroValue 181).run Tryz.prog w = .ok (.agg kwZ) w := fun _ => by kernel_rfl
  go_enter Tryz.func126, Tryz.ntmps126
  go_wp2_with fail
  (with_reducible refine (keywords_any _).mono ?_)
  rintro e w1 ⟨rfl, rfl⟩
  have HC : Hid (∀ j, j < kwA.length → ((w.alloc (.cells kwC 181)).alloc (.cells kwC 181)).cell? ⟨w.heap.size + 1, 0 + j, none⟩ = some (.string (kwA.getD j ByteArray.empty))) := by
    intro j hj
    rw [Lib.cell_of_heap (heap_new' _ _ (by simp)), Nat.zero_add]
    exact kwA_get j hj
  go_wp2_with (first
    | (refine wpList_store_row rfl 181 (.tmp 3) (.tmp 4) rfl (w.heap.size + 1) kwC rfl rfl 181 kwZ (heap_new' _ _ (by simp)) kwInfo rfl (by kernel_rfl) ?_))
  have hW : (((w.alloc (.cells kwC 181)).alloc (.cells kwZ 181)).setRow (w.heap.size + 1) kwC) = (w.alloc (.cells kwC 181)).alloc (.cells kwC 181) := by
    have := World.setRow_alloc_new (w.alloc (.cells kwC 181)) kwZ kwC 181
    rw [World.size_alloc] at this
    exact this
  rw [hW]
  (with_reducible refine (Tryz.slices_Contains_string (w.heap.size + 1) 0 61 61 kwA ⟨x.toArray⟩ _ (Nat.le_of_eq rfl) (by omega) HC.out).mono ?_)
  rintro e w' ⟨rfl, rfl⟩
  rw [HR.out]
  go_wp2
  go_ret
  exact ⟨rfl, ((Bl.refl w).alloc _).alloc _⟩

end Go.Proofs.YtepkfkfedmbmnaaGreatDoor

namespace Go.Proofs.YtepkfkfedmbmnaaGreatDoor
open Go.RowKit
set_option maxRecDepth 100000

theorem eqT_same (k p : Int) (t : List UInt8) (a b : Int) (c : List UInt8) (W : World) : (binOp .eql 53 (TV k p t a b c) (TV k p t a b c)).run Tryz.prog W = .ok (.bool true) W := by
  rw [run_eql_struct]
  simp [go_sem]
theorem neT_same (k p : Int) (t : List UInt8) (a b : Int) (c : List UInt8) (W : World) : (binOp .neq 53 (TV k p t a b c) (TV k p t a b c)).run Tryz.prog W = .ok (.bool false) W := by
  rw [run_neq_struct]
  simp [go_sem]

theorem row_at (l : List Tok) (j : Nat) (h : j < l.length) (i : Nat) (hi : i < 6) : (rowOf l)[j * 6 + i]? = (tokCells l[j])[i]? := by
  induction l generalizing j with
  | nil => simp at h
  | cons a l ih =>
    have e : rowOf (a :: l) = tokCells a ++ rowOf l := rfl
    have ha : (tokCells a).length = 6 := rfl
    rw [e]
    cases j with
    | zero => simp only [Nat.zero_mul, Nat.zero_add]; rw [List.getElem?_append_left (by omega)]; rfl
    | succ j =>
      rw [List.getElem?_append_right (by omega), show (j + 1) * 6 + i - (tokCells a).length = j * 6 + i by omega, ih j (by simpa using h)]
      rfl

/-- The cells of a token at place j of a row in block g. -/
def At6 (W : World) (g j : Nat) (x : Tok) : Prop := W.cell? ⟨g, j * 6, none⟩ = some (.int .i64 x.k) ∧ W.cell? ⟨g, j * 6 + 1, none⟩ = some (.int .i64 x.pos) ∧ W.cell? ⟨g, j * 6 + 2, none⟩ = some (S x.t) ∧
  W.cell? ⟨g, j * 6 + 3, none⟩ = some (.int .i64 x.v.1) ∧ W.cell? ⟨g, j * 6 + 4, none⟩ = some (.int .i64 x.v.2.1) ∧ W.cell? ⟨g, j * 6 + 5, none⟩ = some (S x.v.2.2)
theorem own_at {W : World} {base g cap : Nat} {l : List Tok} (h : W.ownsRow base 53 6 (.slice (some ⟨g, 0, none⟩) l.length cap) l.length (rowOf l)) (j : Nat) (hj : j < l.length) : At6 W g j l[j] := by
  have c := fun i (hi : i < 6) => (h.cellAt (j * 6 + i) (by omega)).trans (row_at l j hj i hi)
  exact ⟨c 0 (by omega), c 1 (by omega), c 2 (by omega), c 3 (by omega), c 4 (by omega), c 5 (by omega)⟩
theorem At6.bl {W W' : World} {g j : Nat} {x : Tok} (h : At6 W g j x) (hb : Bl W W') : At6 W' g j x :=
  ⟨hb.cell h.1, hb.cell h.2.1, hb.cell h.2.2.1, hb.cell h.2.2.2.1, hb.cell h.2.2.2.2.1, hb.cell h.2.2.2.2.2⟩

end Go.Proofs.YtepkfkfedmbmnaaGreatDoor

namespace Go.Proofs.YtepkfkfedmbmnaaGreatDoor
open Go.RowKit
set_option maxRecDepth 100000

theorem tA : toksO [97, 49, 60, 61, 120, 39, 48, 102, 39, 32, 45, 45, 32, 98] = some [⟨1, 0, [97, 49], (0, 0, [])⟩, ⟨3, 2, [60, 61], (0, 0, [])⟩, ⟨2, 4, [120, 39, 48, 102, 39], (4, 0, [15])⟩] := by rfl
theorem tB : toksO [65] = none := by rfl
theorem tC : toksO [49, 97] = none := by rfl
theorem tD : toksO [39, 97] = none := by rfl
theorem eA : allErr [97, 49, 60, 61, 120, 39, 48, 102, 39, 32, 45, 45, 32, 98] = 0 := by unfold allErr; rw [tA]; rfl
theorem eB : allErr [65] = 250 := by unfold allErr; rw [tB]; rfl
theorem eC : allErr [49, 97] = 250 := by unfold allErr; rw [tC]; rfl
theorem eD : allErr [39, 97] = 250 := by unfold allErr; rw [tD]; rfl

theorem kwFrom : kwB [102, 114, 111, 109] = true := by rfl

theorem All_bad (l : List UInt8) (hl : l.length ≤ 9223372036854775807) (h : allErr l = 250) (w : World) (hG : Glob w) : Calls Tryz.prog 31 #[S l] w fun e w' => e = .returned (.tuple #[.slice none 0 0, .int .i64 250]) ∧ Bl w w' :=
  (tAll_any l hl w hG).mono fun e w' ⟨v, he, hb, hv, _⟩ => ⟨by rw [he, hv (by rw [h]; decide), h], hb⟩
/-- All, of a text that is right: a slice of its own. -/
def Got (w : World) (ts : List Tok) (l : List UInt8) (e : Ending) (w' : World) : Prop := ∃ g cap, e = .returned (.tuple #[.slice (some ⟨g, 0, none⟩) (ts.length + 1) cap, .int .i64 0]) ∧ Bl w w' ∧ w.heap.size ≤ g ∧ w'.ownsRow w.heap.size 53 6 (.slice (some ⟨g, 0, none⟩) (ts.length + 1) cap) (ts.length + 1) (rowOf (ts ++ [endTok l.length]))
theorem All_good (l : List UInt8) (hl : l.length ≤ 4000) (ts : List Tok) (h : toksO l = some ts) (w : World) (hG : Glob w) : Calls Tryz.prog 31 #[S l] w (Got w ts l) := by
  have h0 : allErr l = 0 := by unfold allErr; rw [if_neg (by omega), h, if_neg (by simp)]
  refine (tAll_any l (by omega) w hG).mono ?_
  rintro e w' ⟨v, he, hb, _, ho⟩
  have ho' := ho ts h0 h
  obtain ⟨g, cap, rfl⟩ := own_slice ho'
  refine ⟨g, cap, by rw [he, h0], hb, ?_, ho'⟩
  have := (ho'.lt g rfl).1
  exact this
theorem got_at {W : World} {base g cap : Nat} {ts : List Tok} {N : Nat} (h : W.ownsRow base 53 6 (.slice (some ⟨g, 0, none⟩) (ts.length + 1) cap) (ts.length + 1) (rowOf (ts ++ [endTok N]))) :
    ∀ j (hj : j < (ts ++ [endTok N]).length), At6 W g j (ts ++ [endTok N])[j] := fun j hj => by
  have e : ts.length + 1 = (ts ++ [endTok N]).length := by simp
  rw [e] at h
  exact own_at h j hj

end Go.Proofs.YtepkfkfedmbmnaaGreatDoor

