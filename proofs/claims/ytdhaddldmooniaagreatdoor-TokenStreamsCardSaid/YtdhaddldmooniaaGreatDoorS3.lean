/- The reference's streams: Peek, Next, Is, Keyword, Name. -/
import Derived.Test.YtdhaddldmooniaaGreatDoorS2
import Derived.Test.YtdhaddldmooniaaGreatDoorMU
namespace Go.Proofs.YtdhaddldmooniaaGreatDoor
open Go.RowKit
set_option maxRecDepth 100000

/-- The reference's stream as a value. -/
abbrev RS (g n cap k : Nat) : Value := .agg #[.slice (some ⟨g, 0, none⟩) n cap, .int .i64 (k : Int)]

set_option maxHeartbeats 1000000 in
theorem rPeek_any {W : World} {g cap k : Nat} {ts : List Tok} (h : Row W g ts) (hfew : ts.length ≤ 100000) {x : Tok} (hx : ts[k]? = some x) : Calls Tryz.prog 12 #[RS g ts.length cap k] W fun e w' => e = .returned (TVt x) ∧ Bl W w' := by
  have hkl := (List.getElem?_eq_some_iff.1 hx).1
  have h6 := h.at hx
  have hgl : g < W.heap.size := World.block_lt_of_cell? _ _ h6.1
  obtain ⟨xk, xp, xt, xa, xb, xc⟩ := x
  obtain ⟨a0, a1, a2, a3, a4, a5⟩ := h6
  simp only at a0 a1 a2 a3 a4 a5
  clear h hx
  go_enter Tryz.func12, Tryz.ntmps12
  go_wp2_with fail
  exact bodyPost_ret (v := TV xk xp xt xa xb xc) (by simp [results, Tryz.results12, go_sem]) rfl ⟨rfl, ((Bl.refl W).alloc _).alloc _⟩

set_option maxHeartbeats 1000000 in
theorem rNext_any {W : World} {g n cap k : Nat} (hk : k < n) (hfew : n ≤ 100000) : Calls Tryz.prog 13 #[RS g n cap k] W fun e w' => e = .returned (RS g n cap (nextK n k)) ∧ Bl W w' := by
  by_cases h1 : k + 1 < n
  · have HK : Hid ((nextK n k : Int) = (k : Int) + 1) := by show _ = _; unfold nextK; rw [if_pos h1]; simp
    have h1' : (k : Int) + 1 < (n : Int) := by omega
    go_enter Tryz.func13, Tryz.ntmps13
    go_wp2_with fail
    exact bodyPost_ret (v := .agg #[.slice (some ⟨g, 0, none⟩) n cap, .int .i64 ((k : Int) + 1)]) (by simp [results, Tryz.results13, go_sem]) rfl ⟨by show _ = Ending.returned (.agg #[.slice (some ⟨g, 0, none⟩) n cap, .int .i64 ((nextK n k : Nat) : Int)]); rw [HK.out], ((Bl.refl W).alloc _).alloc _⟩
  · have HK : Hid ((nextK n k : Int) = (k : Int)) := by show _ = _; unfold nextK; rw [if_neg h1]; omega
    have h1' : ¬ ((k : Int) + 1 < (n : Int)) := by omega
    go_enter Tryz.func13, Tryz.ntmps13
    go_wp2_with fail
    exact bodyPost_ret (v := .agg #[.slice (some ⟨g, 0, none⟩) n cap, .int .i64 (k : Int)]) (by simp [results, Tryz.results13, go_sem]) rfl ⟨by show _ = Ending.returned (.agg #[.slice (some ⟨g, 0, none⟩) n cap, .int .i64 ((nextK n k : Nat) : Int)]); rw [HK.out], ((Bl.refl W).alloc _).alloc _⟩

def isB (x : Tok) (s : List UInt8) : Bool := (x.k == 1 || x.k == 3) && (x.t == s)
set_option maxHeartbeats 2000000 in
theorem rIs15_any {W : World} {g cap k : Nat} {ts : List Tok} (h : Row W g ts) (hfew : ts.length ≤ 100000) {x : Tok} (hx : ts[k]? = some x) (s : List UInt8) : Calls Tryz.prog 27 #[RS g ts.length cap k, S s] W fun e w' => e = .returned (.bool (isB x s)) ∧ Bl W w' := by
  have H := Lib.hid (h.bl ((Bl.refl W).alloc (.cells #[.slice (some ⟨g, 0, none⟩) ts.length cap, .int .i64 (k : Int)] 44)))
  have HX := Lib.hid hx
  clear h hx
  go_enter Tryz.func27, Tryz.ntmps27
  go_wp2_with fail
  (with_reducible refine (rPeek_any H.out hfew HX.out).mono ?_)
  rintro e w1 ⟨rfl, hb1⟩
  have hB : Bl W w1 := ((Bl.refl W).alloc _).call hb1
  have hB2 := hB.alloc (.cells #[.int .i64 x.k, .int .i64 (x.pos : Int), S x.t, .int .i64 x.v.1, .int .i64 x.v.2.1, S x.v.2.2] 34)
  obtain ⟨xk, xp, xt, xa, xb, xc⟩ := x
  by_cases hk1 : xk = 1
  · subst hk1
    cases he : (xt == s)
    all_goals
      have HE : Hid (isB ⟨1, xp, xt, (xa, xb, xc)⟩ s = (xt == s)) := by show _ = _; simp [isB]
      have HH := Lib.hid he
      go_wp2_with fail
      go_ret
      exact ⟨ret_bool (by rw [HE.out, HH.out]), hB2⟩
  by_cases hk3 : xk = 3
  · subst hk3
    cases he : (xt == s)
    all_goals
      have HE : Hid (isB ⟨3, xp, xt, (xa, xb, xc)⟩ s = (xt == s)) := by show _ = _; simp [isB]
      have HH := Lib.hid he
      go_wp2_with fail
      go_ret
      exact ⟨ret_bool (by rw [HE.out, HH.out]), hB2⟩
  · have b1 : (xk == 1) = false := by simpa using hk1
    have b3 : (xk == 3) = false := by simpa using hk3
    have HE : Hid (isB ⟨xk, xp, xt, (xa, xb, xc)⟩ s = false) := by show _ = _; simp [isB, b1, b3]
    clear hk1 hk3
    go_wp2_with fail
    go_ret
    exact ⟨ret_bool HE.out.symm, hB2⟩

set_option maxHeartbeats 2000000 in
theorem rwords_any (w : World) : Calls Tryz.prog 32 #[] w fun e w' => e = .returned (.slice (some ⟨w.heap.size, 0, none⟩) 61 61) ∧ w' = w.alloc (.cells kwC 9) := by
  go_enter Tryz.func32, Tryz.ntmps32
  go_wp2
  go_ret
  exact ⟨rfl, rfl⟩

theorem kwB_no {x : List UInt8} (h : ∀ j, j < 61 → (kwL.getD j [] == x) = false) : kwB x = false := by
  unfold kwB
  cases hb : kwL.contains x with
  | false => rfl
  | true =>
    have hm : x ∈ kwL := by simpa using hb
    obtain ⟨j, hj, e⟩ := List.mem_iff_getElem.1 hm
    have h61 : j < 61 := hj
    have := h j h61
    rw [List.getD_eq_getElem?_getD, List.getElem?_eq_getElem hj] at this
    simp [e] at this
theorem kwB_yes {x : List UInt8} {j : Nat} (hj : j < 61) (h : (kwL.getD j [] == x) = true) : kwB x = true := by
  have hj' : j < kwL.length := hj
  have e : kwL.getD j [] = x := eq_of_beq h
  rw [List.getD_eq_getElem?_getD, List.getElem?_eq_getElem hj'] at e
  simp at e
  unfold kwB
  simp
  rw [← e]
  exact List.getElem_mem hj'

set_option maxHeartbeats 2000000 in
theorem rKeyword_any (x : List UInt8) (w : World) : Calls Tryz.prog 19 #[S x] w fun e w' => e = .returned (.bool (kwB x)) ∧ Bl w w' := by
  have HC : Hid (∀ j, j < 61 → (w.alloc (.cells kwC 9)).cell? ⟨w.heap.size, j, none⟩ = some (S (kwL.getD j []))) := by
    intro j hj
    rw [Lib.cell_of_heap (heap_new w _)]
    exact kw_get j hj
  go_enter Tryz.func19, Tryz.ntmps19
  go_wp2_with fail
  (with_reducible refine (rwords_any _).mono ?_)
  rintro e w1 ⟨rfl, rfl⟩
  have hB : Bl w (w.alloc (.cells kwC 9)) := (Bl.refl w).alloc _
  generalize w.alloc (.cells kwC 9) = w1 at *
  go_wp2_with fail
  go_loop [4] (fun i => ∃ k : Nat, k ≤ 61 ∧ i = .int .i64 k ∧ Hid (∀ j, j < k → j < 61 → (kwL.getD j [] == x) = false)) (fun i => 61 - (intOf i).toNat)
  case atStart => exact ⟨0, by omega, rfl, fun j h => by omega⟩
  case round =>
    obtain ⟨k, hk, rfl, HN⟩ := hrel
    by_cases hlt : k < 61
    · have hcell := HC.out k hlt
      have HY : Hid ((kwL.getD k [] == x) = true → kwB x = true) := fun h => kwB_yes hlt h
      have HZ : Hid ((kwL.getD k [] == x) = false → ∀ j, j < k + 1 → j < 61 → (kwL.getD j [] == x) = false) := fun h j h1 h2 => by
        by_cases e : j = k
        · rw [e]; exact h
        · exact HN.out j (by omega) h2
      generalize kwL.getD k [] = y at *
      cases he : (y == x)
      · have HQ := Lib.hid (HZ.out he)
        go_wp2
        go_round
        case rel => exact ⟨k + 1, by omega, by go_num, HQ.out⟩
        case measure => simp [intOf]; omega
      · have HQ := Lib.hid (HY.out he)
        go_wp2
        go_ret
        exact ⟨ret_bool HQ.out.symm, hB⟩
    · obtain rfl : k = 61 := by omega
      have HQ := Lib.hid (kwB_no (fun j hj => HN.out j hj hj))
      go_wp2
      go_ret
      exact ⟨ret_bool HQ.out.symm, hB⟩

end Go.Proofs.YtdhaddldmooniaaGreatDoor
