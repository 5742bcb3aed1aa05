/- loupelaw15: num, same. -/
import Derived.Test.YtdhaddldmooniaaGreatDoorT6
import Derived.BigRegion
import Derived.RegionTactic
import Derived.Laws.StructEq
namespace Go.Proofs.YtdhaddldmooniaaGreatDoor
open Go.RowKit
set_option maxRecDepth 100000

theorem num15_any (n : Int) (w : World) : Calls Tryz.prog 7 #[.int .i64 n] w fun e w' => e = .returned (.int .i64 n) ∧ w = w' := by
  go_enter Tryz.func7, Tryz.ntmps7
  go_wp2
  go_ret
  exact ⟨rfl, rfl⟩

theorem eqT_same (k p : Int) (t : List UInt8) (a b : Int) (c : List UInt8) (W : World) : (binOp .eql 34 (TV k p t a b c) (TV k p t a b c)).run Tryz.prog W = .ok (.bool true) W := by
  rw [run_eql_struct]
  simp [go_sem]
theorem neT_same (k p : Int) (t : List UInt8) (a b : Int) (c : List UInt8) (W : World) : (binOp .neq 34 (TV k p t a b c) (TV k p t a b c)).run Tryz.prog W = .ok (.bool false) W := by
  rw [run_neq_struct]
  simp [go_sem]

theorem row_at (l : List Tok) (j : Nat) (h : j < l.length) (i : Nat) (hi : i < 6) : (rowOf l)[j * 6 + i]? = (tokCells l[j])[i]? := by
  induction l generalizing j with
  | nil => simp at h
  | cons a l ih =>
    have e : rowOf (a :: l) = tokCells a ++ rowOf l := rfl
    have ha : (tokCells a).length = 6 := rfl
    rw [e]
    cases j with
    | zero => simp only [Nat.zero_mul, Nat.zero_add]; rw [List.getElem?_append_left (by omega)]; rfl
    | succ j =>
      rw [List.getElem?_append_right (by omega), show (j + 1) * 6 + i - (tokCells a).length = j * 6 + i by omega, ih j (by simpa using h)]
      rfl

/-- The cells of a token at place j of a row in block g. -/
def At6 (W : World) (g j : Nat) (x : Tok) : Prop := W.cell? ⟨g, j * 6, none⟩ = some (.int .i64 x.k) ∧ W.cell? ⟨g, j * 6 + 1, none⟩ = some (.int .i64 x.pos) ∧ W.cell? ⟨g, j * 6 + 2, none⟩ = some (S x.t) ∧
  W.cell? ⟨g, j * 6 + 3, none⟩ = some (.int .i64 x.v.1) ∧ W.cell? ⟨g, j * 6 + 4, none⟩ = some (.int .i64 x.v.2.1) ∧ W.cell? ⟨g, j * 6 + 5, none⟩ = some (S x.v.2.2)
theorem own_at {W : World} {base g cap : Nat} {l : List Tok} (h : W.ownsRow base 34 6 (.slice (some ⟨g, 0, none⟩) l.length cap) l.length (rowOf l)) (j : Nat) (hj : j < l.length) : At6 W g j l[j] := by
  have c := fun i (hi : i < 6) => (h.cellAt (j * 6 + i) (by omega)).trans (row_at l j hj i hi)
  exact ⟨c 0 (by omega), c 1 (by omega), c 2 (by omega), c 3 (by omega), c 4 (by omega), c 5 (by omega)⟩
theorem At6.bl {W W' : World} {g j : Nat} {x : Tok} (h : At6 W g j x) (hb : Bl W W') : At6 W' g j x :=
  ⟨hb.cell h.1, hb.cell h.2.1, hb.cell h.2.2.1, hb.cell h.2.2.2.1, hb.cell h.2.2.2.2.1, hb.cell h.2.2.2.2.2⟩

set_option maxHeartbeats 4000000 in
/-- Two lists of tokens that are the same but for places. -/
theorem same15_any (g g' n cap cap' : Nat) (la lb : List Tok) (ha : la.length = n) (hb : lb.length = n) (hn : n ≤ 100000) (he : la.map Tok.bare = lb.map Tok.bare) (w : World)
    (hA : ∀ j (h : j < la.length), At6 w g j la[j]) (hB : ∀ j (h : j < lb.length), At6 w g' j lb[j]) :
    Calls Tryz.prog 8 #[.slice (some ⟨g, 0, none⟩) n cap, .slice (some ⟨g', 0, none⟩) n cap', .bool false] w fun e w' => e = .returned (.bool true) ∧ Bl w w' := by
  have HA := Lib.hid hA
  have HB := Lib.hid hB
  have HE := Lib.hid he
  have HLa := Lib.hid ha
  have HLb := Lib.hid hb
  clear hA hB he ha hb
  go_enter Tryz.func8, Tryz.ntmps8
  go_wp2_with fail
  go_loopw [7] (fun i wr => ∃ k : Nat, k ≤ n ∧ i = .int .i64 k ∧ Bl w wr) (fun i _ => n - (intOf i).toNat)
  case atStart => exact ⟨0, Nat.zero_le _, rfl, Bl.refl w⟩
  case round =>
    obtain ⟨k, hk, rfl, hB⟩ := hrel
    by_cases hlt : k < n
    · have hka : k < la.length := by rw [HLa.out]; exact hlt
      have hkb : k < lb.length := by rw [HLb.out]; exact hlt
      have a6 := (HA.out k hka).bl hB
      have b6 := (HB.out k hkb).bl hB
      have hee : la[k].bare = lb[k].bare := by
        have := congrArg (fun l => l[k]?) HE.out
        simpa [hka, hkb] using this
      generalize la[k] = x at *
      generalize lb[k] = y at *
      obtain ⟨xk, xp, xt, xa, xb, xc⟩ := x
      obtain ⟨yk, yp, yt, ya, yb, yc⟩ := y
      simp only [Tok.bare, Prod.mk.injEq] at hee
      obtain ⟨rfl, rfl, rfl, rfl, rfl⟩ := hee
      obtain ⟨a0, a1, a2, a3, a4, a5⟩ := a6
      obtain ⟨b0, b1, b2, b3, b4, b5⟩ := b6
      simp only at a0 a1 a2 a3 a4 a5 b0 b1 b2 b3 b4 b5
      have hg : g < wr.heap.size := World.block_lt_of_cell? _ _ a0
      have hg' : g' < wr.heap.size := World.block_lt_of_cell? _ _ b0
      go_wp2_with fail
      go_region
      all_goals
        have hnq : ∀ w, (binOp BinOp.neq 34 (.agg #[.int .i64 xk, .int .i64 0, S xt, .int .i64 xa, .int .i64 xb, S xc]) (.agg #[.int .i64 xk, .int .i64 0, S xt, .int .i64 xa, .int .i64 xb, S xc])).run Tryz.prog w = .ok (.bool false) w := fun w => neT_same _ _ _ _ _ _ w
        go_wp2
        go_roundw
        case rel => exact ⟨k + 1, by omega, by go_num, ((hB.alloc _).alloc _).drew⟩
        case measure => simp [intOf]; omega
    · obtain rfl : k = n := by omega
      go_wp2
      go_ret
      exact ⟨rfl, hB⟩

end Go.Proofs.YtdhaddldmooniaaGreatDoor
