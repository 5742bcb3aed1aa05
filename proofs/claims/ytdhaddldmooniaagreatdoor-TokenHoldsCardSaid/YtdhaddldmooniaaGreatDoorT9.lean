/- loupelaw15: works. -/
import Derived.Test.YtdhaddldmooniaaGreatDoorT7
import Derived.Test.YtdhaddldmooniaaGreatDoorT8
namespace Go.Proofs.YtdhaddldmooniaaGreatDoor
open Go.RowKit
set_option maxRecDepth 100000

theorem tA : toksO [97, 49, 60, 61, 120, 39, 48, 102, 39, 32, 45, 45, 32, 98] = some [⟨1, 0, [97, 49], (0, 0, [])⟩, ⟨3, 2, [60, 61], (0, 0, [])⟩, ⟨2, 4, [120, 39, 48, 102, 39], (4, 0, [15])⟩] := by rfl
theorem tB : toksO [65] = none := by rfl
theorem tC : toksO [49, 97] = none := by rfl
theorem tD : toksO [39, 97] = none := by rfl
theorem eA : allErr [97, 49, 60, 61, 120, 39, 48, 102, 39, 32, 45, 45, 32, 98] = 0 := by unfold allErr; rw [tA]; rfl
theorem eB : allErr [65] = 250 := by unfold allErr; rw [tB]; rfl
theorem eC : allErr [49, 97] = 250 := by unfold allErr; rw [tC]; rfl
theorem eD : allErr [39, 97] = 250 := by unfold allErr; rw [tD]; rfl

theorem kwFrom : kwB [102, 114, 111, 109] = true := by rfl

theorem All_bad (l : List UInt8) (hl : l.length ≤ 9223372036854775807) (h : allErr l = 250) (w : World) (hG : Glob w) : Calls Tryz.prog 6 #[S l] w fun e w' => e = .returned (.tuple #[.slice none 0 0, .int .i64 250]) ∧ Bl w w' :=
  (tAll_any l hl w hG).mono fun e w' ⟨v, he, hb, hv, _⟩ => ⟨by rw [he, hv (by rw [h]; decide), h], hb⟩
/-- All, of a text that is right: a slice of its own. -/
def Got (w : World) (ts : List Tok) (l : List UInt8) (e : Ending) (w' : World) : Prop := ∃ g cap, e = .returned (.tuple #[.slice (some ⟨g, 0, none⟩) (ts.length + 1) cap, .int .i64 0]) ∧ Bl w w' ∧ w.heap.size ≤ g ∧ w'.ownsRow w.heap.size 34 6 (.slice (some ⟨g, 0, none⟩) (ts.length + 1) cap) (ts.length + 1) (rowOf (ts ++ [endTok l.length]))
theorem All_good (l : List UInt8) (hl : l.length ≤ 4000) (ts : List Tok) (h : toksO l = some ts) (w : World) (hG : Glob w) : Calls Tryz.prog 6 #[S l] w (Got w ts l) := by
  have h0 : allErr l = 0 := by unfold allErr; rw [if_neg (by omega), h, if_neg (by simp)]
  refine (tAll_any l (by omega) w hG).mono ?_
  rintro e w' ⟨v, he, hb, _, ho⟩
  have ho' := ho ts h0 h
  obtain ⟨g, cap, rfl⟩ := own_slice ho'
  refine ⟨g, cap, by rw [he, h0], hb, ?_, ho'⟩
  have := (ho'.lt g rfl).1
  exact this
theorem got_at {W : World} {base g cap : Nat} {ts : List Tok} {N : Nat} (h : W.ownsRow base 34 6 (.slice (some ⟨g, 0, none⟩) (ts.length + 1) cap) (ts.length + 1) (rowOf (ts ++ [endTok N]))) :
    ∀ j (hj : j < (ts ++ [endTok N]).length), At6 W g j (ts ++ [endTok N])[j] := fun j hj => by
  have e : ts.length + 1 = (ts ++ [endTok N]).length := by simp
  rw [e] at h
  exact own_at h j hj

set_option maxHeartbeats 4000000 in
theorem works15_any (w : World) (hG : Glob w) : Calls Tryz.prog 5 #[] w fun e w' => e = .returned (.bool true) ∧ Bl w w' := by
  go_enter Tryz.func5, Tryz.ntmps5
  go_wp2_with fail
  (with_reducible refine (All_good [97, 49, 60, 61, 120, 39, 48, 102, 39, 32, 45, 45, 32, 98] (by simp) _ tA w hG).mono ?_)
  rintro e w1 ⟨g, cap, rfl, hB1, -, ho⟩
  have r0 := (got_at ho 0 (by simp)).2.2.1
  have r1 := got_at ho 1 (by simp)
  have r2 := (got_at ho 2 (by simp)).2.2.2
  have r3 := (got_at ho 3 (by simp)).2.1
  clear ho
  go_wp2_with fail
  (with_reducible refine (All_bad [65] (by simp) eB _ (hG.bl hB1)).mono ?_)
  rintro e w2 ⟨rfl, hb2⟩
  have hB2 := hB1.call hb2
  go_wp2_with fail
  (with_reducible refine (All_bad [49, 97] (by simp) eC _ (hG.bl hB2)).mono ?_)
  rintro e w3 ⟨rfl, hb3⟩
  have hB3 := hB2.call hb3
  go_wp2_with fail
  (with_reducible refine (All_bad [39, 97] (by simp) eD _ (hG.bl hB3)).mono ?_)
  rintro e w4 ⟨rfl, hb4⟩
  have hB4 := hB3.call hb4
  have hb := (hb2.call hb3).call hb4
  replace r0 := hb.cell r0
  replace r1 := r1.bl hb
  obtain ⟨r10, r11, r12, r13, r14, r15⟩ := r1
  have r20 := hb.cell r2.1
  have r21 := hb.cell r2.2.1
  have r22 := hb.cell r2.2.2
  replace r3 := hb.cell r3
  clear hb hb2 hb3 hb4 hB1 hB2 hB3 r2
  simp [endTok] at r0 r10 r11 r12 r13 r14 r15 r20 r21 r22 r3
  go_wp2_with (first
    | (go_at_call 7; (with_reducible refine (num15_any _ _).mono ?_); rintro e w' ⟨rfl, rfl⟩)
    | (go_at_call 18; (with_reducible refine (Keyword_any [102, 114, 111, 109] _).mono ?_); rintro e w' ⟨rfl, hbk⟩))
  go_ret
  exact ⟨ret_bool kwFrom, hB4.call hbk⟩

end Go.Proofs.YtdhaddldmooniaaGreatDoor
