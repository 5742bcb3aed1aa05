/- The reference of layer 2: Info; of layer 16: Of, level, IsName. -/
import Derived.Test.YtepkfkfedmbmnaaGreatDoorME
import Derived.Test.YtepkfkfedmbmnaaGreatDoorMS
import Derived.Test.YtepkfkfedmbmnaaGreatDoorMG
namespace Go.Proofs.YtepkfkfedmbmnaaGreatDoor
open Go.RowKit
set_option maxRecDepth 100000

def opOf (o : Int) : Int := if 1 ≤ o ∧ o ≤ 5 ∨ o = 15 ∨ o = 20 then 2 else if o = 13 ∨ o = 14 ∨ o = 16 then 1 else 0
def opMakes (o : Int) : Int := if 1 ≤ o ∧ o ≤ 5 ∨ o = 15 ∨ o = 19 ∨ o = 20 then 2 else if 7 ≤ o ∧ o ≤ 14 ∨ 16 ≤ o ∧ o ≤ 18 then 1 else 0
/-- What an operator is, as a value. -/
abbrev OI (o : Int) : Value := .agg #[S (opName o), .int .i64 (opMany o : Int), .int .i64 (opOf o), .int .i64 (opMakes o)]
theorem twenty {o : Int} (h : 1 ≤ o ∧ o ≤ 20) : o = 1 ∨ o = 2 ∨ o = 3 ∨ o = 4 ∨ o = 5 ∨ o = 6 ∨ o = 7 ∨ o = 8 ∨ o = 9 ∨ o = 10 ∨ o = 11 ∨ o = 12 ∨ o = 13 ∨ o = 14 ∨ o = 15 ∨ o = 16 ∨ o = 17 ∨ o = 18 ∨ o = 19 ∨ o = 20 := by omega
theorem op_none {o : Int} (h : ¬ (1 ≤ o ∧ o ≤ 20)) : opName o = [] := by
  unfold opName
  split <;> first | rfl | (exfalso; apply h; decide)

set_option maxHeartbeats 16000000 in
theorem yInfo_in (o : Int) (h : 1 ≤ o ∧ o ≤ 20) (w : World) : Calls Tryz.prog 47 #[.int .i64 o] w fun e w' => e = .returned (OI o) ∧ Bl w w' := by
  rcases twenty h with rfl | rfl | rfl | rfl | rfl | rfl | rfl | rfl | rfl | rfl | rfl | rfl | rfl | rfl | rfl | rfl | rfl | rfl | rfl | rfl
  all_goals
    clear h
    go_enter Tryz.func47, Tryz.ntmps47
    go_wp2
    refine bodyPost_ret ?_ rfl ⟨rfl, (((Bl.refl w).alloc _).alloc _).alloc _⟩
    simp [results, Tryz.results47, go_sem, opName, opMany, opOf, opMakes]
set_option maxHeartbeats 1000000 in
theorem yInfo_any (o : Int) (w : World) : Calls Tryz.prog 47 #[.int .i64 o] w fun e w' => e = .returned (OI o) ∧ Bl w w' := by
  by_cases h : 1 ≤ o ∧ o ≤ 20
  · exact yInfo_in o h w
  · have e : OI o = .agg #[.string ⟨#[]⟩, .int .i64 0, .int .i64 0, .int .i64 0] := by
      show Value.agg #[S (opName o), .int .i64 (opMany o : Int), .int .i64 (opOf o), .int .i64 (opMakes o)] = _
      rw [show opName o = [] from op_none h, show opMany o = 0 by unfold opMany; rw [if_neg (by omega), if_neg (by omega)], show opOf o = 0 by unfold opOf; rw [if_neg (by omega), if_neg (by omega)], show opMakes o = 0 by unfold opMakes; rw [if_neg (by omega), if_neg (by omega)]]
      rfl
    have HE := Lib.hid e
    have h1 : o < 1 ∨ (¬ o < 1 ∧ 20 < o) := by omega
    clear e h
    rcases h1 with h1 | ⟨h1, h2⟩
    all_goals
      go_enter Tryz.func47, Tryz.ntmps47
      go_wp2
      exact bodyPost_ret (v := .agg #[.string ⟨#[]⟩, .int .i64 0, .int .i64 0, .int .i64 0]) (by simp [results, Tryz.results47, go_sem]) rfl ⟨by rw [HE.out], (Bl.refl w).alloc _⟩
theorem xOf_any (o : Int) (sv : Value) (hsv : ∃ a n c, sv = .slice a n c) (w : World) : Calls Tryz.prog 65 #[.int .i64 o, sv] w fun e w' => e = .returned (EV 3 (0, 0, []) [] [] o sv) ∧ Bl w w' := by
  obtain ⟨a, n, c, rfl⟩ := hsv
  go_enter Tryz.func65, Tryz.ntmps65
  go_wp2
  exact bodyPost_ret (v := EV 3 (0, 0, []) [] [] o (.slice a n c)) (by simp [results, Tryz.results65, go_sem]) rfl ⟨rfl, (Bl.refl w).alloc _⟩
/-- The slice sv holds these numbers. -/
def IntsA (W : World) (sv : Value) (l : List Int) : Prop := ∃ a cap, sv = .slice a l.length cap ∧ ∀ j, (h : j < l.length) → ∃ b off, a = some ⟨b, off, none⟩ ∧ W.cell? ⟨b, off + j, none⟩ = some (.int .i64 l[j])
theorem IntsA.bl {W W' : World} (hb : Bl W W') {sv : Value} {l : List Int} (h : IntsA W sv l) : IntsA W' sv l := by
  obtain ⟨a, cap, e, hc⟩ := h
  refine ⟨a, cap, e, fun j hj => ?_⟩
  obtain ⟨b, off, e2, c⟩ := hc j hj
  exact ⟨b, off, e2, hb.cell c⟩

end Go.Proofs.YtepkfkfedmbmnaaGreatDoor
