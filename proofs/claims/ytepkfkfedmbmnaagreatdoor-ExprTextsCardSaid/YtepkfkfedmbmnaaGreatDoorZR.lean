/- The program's Text, whatever it is handed. ExprHolds' walk. -/
import Derived.Test.YtepkfkfedmbmnaaGreatDoorZQ
import Derived.Test.YtepkfkfedmbmnaaGreatDoorZB
namespace Go.Proofs.YtepkfkfedmbmnaaGreatDoor
open Go.RowKit
set_option maxRecDepth 100000

def textN (x : Ex) : List UInt8 := if checkB x = true then textE x else []
--BEGIN1
set_option maxHeartbeats 2000000 in
theorem eText_no {x : Ex} (hp : partsE x ≤ 1000000) (hC : checkB x = false) (hL : Lens x) (W : World) (v : Value) (hv : ReadsE W x v) (hG : Glob W) :
    Calls Tryz.prog 20 #[v] W fun e w' => e = .returned (.tuple #[S [], .int .i64 2]) ∧ Bl W w' := by
  have HCK : Hid (∀ W' v, Bl W W' → ReadsE W' x v → Calls Tryz.prog 26 #[v] W' fun e w' => e = .returned (.int .i64 2) ∧ Bl W' w') := fun W' v hb hv => by
    have h := echeck_any _ x (Nat.le_refl _) hp hL W' v hv (hG.bl hb)
    rw [show ckN x = 2 by unfold ckN; rw [hC]; rfl] at h
    exact h
  have HV := Lib.hid hv
  obtain ⟨sv, rfl, hR⟩ := hv
  obtain ⟨a, cap, rfl, -⟩ := hR.shape
  clear hR hC hL hp
  obtain ⟨k, ⟨v1, v2, v3⟩, t, n, o, args⟩ := x
  simp only [Ex.k, Ex.v, Ex.t, Ex.n, Ex.o, Ex.args] at *
  have HB0 := Lib.hid ((Bl.refl W).alloc (.cells #[.int .i64 k, .int .i64 v1, .int .i64 v2, S v3, S t, S n, .int .i64 o, .slice a args.length cap] 30))
  go_enter Tryz.func20, Tryz.ntmps20
  go_wp2_with fail
  refine (HCK.out _ _ HB0.out (HV.out.bl HB0.out)).mono ?_
  rintro e w1 ⟨rfl, hb1⟩
  go_wp2
  go_ret2
  exact ⟨rfl, HB0.out.call hb1⟩
--END1
theorem eText_any {x : Ex} (hp : partsE x ≤ 1000000) (hF : Fits x) (hL : Lens x) (hl : checkB x = true → (textE x).length ≤ 100000000) (W : World) (v : Value) (hv : ReadsE W x v) (hG : Glob W) :
    Calls Tryz.prog 20 #[v] W fun e w' => e = .returned (.tuple #[S (textN x), .int .i64 (ckN x)]) ∧ Bl W w' := by
  cases hC : checkB x
  · rw [show textN x = [] by unfold textN; rw [hC]; rfl, show ckN x = 2 by unfold ckN; rw [hC]; rfl]
    exact eText_no hp hC hL W v hv hG
  · rw [show textN x = textE x from if_pos hC, show ckN x = 0 from if_pos hC]
    exact eText_yes hp hC hF hL (hl hC) W v hv hG

--BEGIN2
set_option maxHeartbeats 4000000 in
/-- Too vast; not right; too long; too deep. -/
theorem eholds_off (x : Ex) (W : World) (v : Value) (hv : ReadsE W x v) (hG : Glob W) (vast : Bool) (s : List UInt8) (c d : Int) (hc : c = 0 ∨ c = 2)
    (hva : ∀ w, Bl W w → Calls Tryz.prog 19 #[v, .int .i64 200] w fun e w' => e = .returned (.bool vast) ∧ Bl w w')
    (htx : vast = false → ∀ w, Bl W w → Calls Tryz.prog 20 #[v] w fun e w' => e = .returned (.tuple #[S s, .int .i64 c]) ∧ Bl w w')
    (hde : vast = false → ∀ w, Bl W w → Calls Tryz.prog 21 #[v] w fun e w' => e = .returned (.int .i64 d) ∧ Bl w w')
    (hoff : vast = true ∨ c = 2 ∨ 4000 < s.length ∨ 60 < d) (hs : s.length ≤ 100000000) : Calls Tryz.prog 5 #[v] W (Yes W) := by
  have HG := Lib.hid hG
  have HVA := Lib.hid hva
  obtain ⟨sv, rfl, hR⟩ := hv
  obtain ⟨a, cap, rfl, -⟩ := hR.shape
  clear hR hG hva
  obtain ⟨k, ⟨v1, v2, v3⟩, t, n, o, args⟩ := x
  simp only [Ex.k, Ex.v, Ex.t, Ex.n, Ex.o, Ex.args] at *
  have HB0 := Lib.hid ((Bl.refl W).alloc (.cells #[.int .i64 k, .int .i64 v1, .int .i64 v2, S v3, S t, S n, .int .i64 o, .slice a args.length cap] 30))
  cases hvs : vast
  case true =>
    clear htx hde hoff
    subst hvs
    go_enter Tryz.func5, Tryz.ntmps5
    go_wp2_with fail
    refine (HVA.out _ HB0.out).mono ?_
    rintro e w1 ⟨rfl, hb1⟩
    have HB1 := Lib.hid (HB0.out.call hb1)
    clear hb1
    go_wp2_with fail
    (with_reducible refine (works16_any _ (HG.out.bl HB1.out)).mono ?_)
    rintro e w2 ⟨rfl, hb2⟩
    go_wp2
    go_ret
    exact ⟨rfl, HB1.out.call hb2⟩
  case false =>
    have HTX := Lib.hid (htx hvs)
    have HDE := Lib.hid (hde hvs)
    clear htx hde
    subst hvs
    have hX0 := heap_new W (.cells #[.int .i64 k, .int .i64 v1, .int .i64 v2, S v3, S t, S n, .int .i64 o, .slice a args.length cap] 30)
    have HX0 := Lib.hid hX0
    clear hX0
    go_enter Tryz.func5, Tryz.ntmps5
    go_wp2_with fail
    refine (HVA.out _ HB0.out).mono ?_
    rintro e w1 ⟨rfl, hb1⟩
    have HB1 := Lib.hid (HB0.out.call hb1)
    have HX1 := Lib.hid ((hb1.block W.heap.size (by simp)).trans HX0.out)
    obtain ⟨⟨e0, e1, e2, e3, e4, e5, e6, e7⟩, -⟩ := eight HX1.out
    clear hb1
    go_wp2_with fail
    refine (HTX.out _ HB1.out).mono ?_
    rintro e w2 ⟨rfl, hb2⟩
    have HB2 := Lib.hid (HB1.out.call hb2)
    have HX2 := Lib.hid ((hb2.block W.heap.size (Array.getElem?_eq_some_iff.1 HX1.out).1).trans HX1.out)
    clear hb2 e0 e1 e2 e3 e4 e5 e6 e7
    obtain ⟨⟨e0, e1, e2, e3, e4, e5, e6, e7⟩, -⟩ := eight HX2.out
    go_wp2_with fail
    (with_reducible refine (num16_any _ _).mono ?_)
    rintro e w' ⟨rfl, rfl⟩
    rcases hc with rfl | rfl
    · by_cases hl : 4000 < s.length
      · have hl' : 4000 < (s.length : Int) := by omega
        clear hl hoff
        go_wp2_with fail
        (with_reducible refine (works16_any _ (HG.out.bl HB2.out)).mono ?_)
        rintro e w3 ⟨rfl, hb3⟩
        go_wp2
        go_ret
        exact ⟨rfl, HB2.out.call hb3⟩
      · have hl' : ¬ 4000 < (s.length : Int) := by omega
        have hd : 60 < d := by rcases hoff with h | h | h | h <;> first | cases h | omega
        clear hl hoff
        go_wp2_with fail
        refine (HDE.out _ HB2.out).mono ?_
        rintro e w3 ⟨rfl, hb3⟩
        have HB3 := Lib.hid (HB2.out.call hb3)
        go_wp2_with fail
        (with_reducible refine (works16_any _ (HG.out.bl HB3.out)).mono ?_)
        rintro e w4 ⟨rfl, hb4⟩
        go_wp2
        go_ret
        exact ⟨rfl, HB3.out.call hb4⟩
    · clear hoff
      go_wp2_with fail
      (with_reducible refine (works16_any _ (HG.out.bl HB2.out)).mono ?_)
      rintro e w3 ⟨rfl, hb3⟩
      go_wp2
      go_ret
      exact ⟨rfl, HB2.out.call hb3⟩
--END2
--BEGIN3
set_option maxHeartbeats 4000000 in
/-- The expression of its text is it. -/
theorem eholds_on (x : Ex) (W : World) (v : Value) (hv : ReadsE W x v) (hG : Glob W) (hp : partsE x ≤ 200) (hC : checkB x = true) (hF : Fits x) (hL : Lens x) (hs : (textE x).length ≤ 4000) (hd : deepE x ≤ 60)
    (hva : ∀ w, Bl W w → Calls Tryz.prog 19 #[v, .int .i64 200] w fun e w' => e = .returned (.bool false) ∧ Bl w w') : Calls Tryz.prog 5 #[v] W (Yes W) := by
  have HG := Lib.hid hG
  have HVA := Lib.hid hva
  have HV := Lib.hid hv
  have HTX : Hid (∀ w v, Bl W w → ReadsE w x v → Calls Tryz.prog 20 #[v] w fun e w' => e = .returned (.tuple #[S (textE x), .int .i64 0]) ∧ Bl w w') := fun w v hb hv => eText_yes (by omega) hC hF hL (by omega) w v hv (hG.bl hb)
  have HDE : Hid (∀ w v, ReadsE w x v → Calls Tryz.prog 21 #[v] w fun e w' => e = .returned (.int .i64 (deepE x : Int)) ∧ Bl w w') := fun w v hv => deep16_any _ x (Nat.le_refl _) (by omega) w v hv
  have HPA : Hid (∀ w, Bl W w → Calls Tryz.prog 8 #[S (textE x)] w fun e w' => ∃ v, ReadsE w' x v ∧ e = .returned (.tuple #[v, .int .i64 0]) ∧ Bl w w') := fun w hb => by
    have h := eParse_any (textE x) (by omega) w (hG.bl hb)
    refine h.mono fun e w' ⟨v, h1, h2, h3⟩ => ?_
    rw [parseX_text hC hF hd hs] at h1 h2
    exact ⟨v, h1, h2, h3⟩
  have HSM : Hid (∀ w v u, ReadsE w x v → ReadsE w x u → Calls Tryz.prog 22 #[v, u] w fun e w' => e = .returned (.bool true) ∧ Bl w w') := fun w v u hv hu => by
    have h := eSame_any _ x x (Nat.le_refl _) (by omega) w v u hv hu
    rw [same_self] at h
    exact h
  have hs' : ¬ 4000 < ((textE x).length : Int) := by omega
  have hd' : ¬ 60 < (deepE x : Int) := by omega
  obtain ⟨sv, rfl, hR⟩ := hv
  obtain ⟨a, cap, rfl, -⟩ := hR.shape
  clear hR hG hva hp hC hF hL hs hd
  obtain ⟨s, hS⟩ : ∃ s, Hid (textE x = s) := ⟨_, rfl⟩
  obtain ⟨d, hD⟩ : ∃ d, Hid (deepE x = d) := ⟨_, rfl⟩
  rw [hS.out] at HTX HPA hs'
  rw [hD.out] at HDE hd'
  clear hS hD
  obtain ⟨k, ⟨v1, v2, v3⟩, t, n, o, args⟩ := x
  simp only [Ex.k, Ex.v, Ex.t, Ex.n, Ex.o, Ex.args] at *
  have HB0 := Lib.hid ((Bl.refl W).alloc (.cells #[.int .i64 k, .int .i64 v1, .int .i64 v2, S v3, S t, S n, .int .i64 o, .slice a args.length cap] 30))
  have HX0 := Lib.hid (heap_new W (.cells #[.int .i64 k, .int .i64 v1, .int .i64 v2, S v3, S t, S n, .int .i64 o, .slice a args.length cap] 30))
  go_enter Tryz.func5, Tryz.ntmps5
  go_wp2_with fail
  refine (HVA.out _ HB0.out).mono ?_
  rintro e w1 ⟨rfl, hb1⟩
  have HB1 := Lib.hid (HB0.out.call hb1)
  have HX1 := Lib.hid ((hb1.block W.heap.size (by simp)).trans HX0.out)
  obtain ⟨⟨e0, e1, e2, e3, e4, e5, e6, e7⟩, -⟩ := eight HX1.out
  clear hb1
  go_wp2_with fail
  refine (HTX.out _ _ HB1.out (HV.out.bl HB1.out)).mono ?_
  rintro e w2 ⟨rfl, hb2⟩
  have HB2 := Lib.hid (HB1.out.call hb2)
  have HX2 := Lib.hid ((hb2.block W.heap.size (Array.getElem?_eq_some_iff.1 HX1.out).1).trans HX1.out)
  clear hb2 e0 e1 e2 e3 e4 e5 e6 e7
  obtain ⟨⟨e0, e1, e2, e3, e4, e5, e6, e7⟩, -⟩ := eight HX2.out
  go_wp2_with fail
  (with_reducible refine (num16_any _ _).mono ?_)
  rintro e w' ⟨rfl, rfl⟩
  go_wp2_with fail
  refine (HDE.out _ _ (HV.out.bl HB2.out)).mono ?_
  rintro e w3 ⟨rfl, hb3⟩
  have HB3 := Lib.hid (HB2.out.call hb3)
  have HX3 := Lib.hid ((hb3.block W.heap.size (Array.getElem?_eq_some_iff.1 HX2.out).1).trans HX2.out)
  clear hb3 e0 e1 e2 e3 e4 e5 e6 e7
  go_wp2_with fail
  refine (HPA.out _ HB3.out).mono ?_
  rintro e w4 ⟨vy, hvy, rfl, hb4⟩
  have HVY := Lib.hid hvy
  obtain ⟨sy, rfl, hRy⟩ := hvy
  obtain ⟨ay, capy, rfl, -⟩ := hRy.shape
  simp only [Ex.k, Ex.v, Ex.t, Ex.n, Ex.o, Ex.args] at *
  have HB4 := Lib.hid ((HB3.out.call hb4).alloc (.cells #[.int .i64 k, .int .i64 v1, .int .i64 v2, S v3, S t, S n, .int .i64 o, .slice ay args.length capy] 30))
  have HY4 := Lib.hid (heap_new w4 (.cells #[.int .i64 k, .int .i64 v1, .int .i64 v2, S v3, S t, S n, .int .i64 o, .slice ay args.length capy] 30))
  have HX4 := Lib.hid ((hb4.block W.heap.size (Array.getElem?_eq_some_iff.1 HX3.out).1).trans HX3.out)
  have HV4 := Lib.hid (HVY.out.bl ((Bl.refl w4).alloc (.cells #[.int .i64 k, .int .i64 v1, .int .i64 v2, S v3, S t, S n, .int .i64 o, .slice ay args.length capy] 30)))
  clear hb4 hRy HVY
  go_wp2_with fail
  refine (HTX.out _ _ HB4.out HV4.out).mono ?_
  rintro e w5 ⟨rfl, hb5⟩
  have HB5 := Lib.hid (HB4.out.call hb5)
  have HX5 := Lib.hid ((hb5.block W.heap.size (by have := (Array.getElem?_eq_some_iff.1 HX4.out).1; simp; omega)).trans ((heap_old _ _ (Array.getElem?_eq_some_iff.1 HX4.out).1).trans HX4.out))
  have HY5 := Lib.hid ((hb5.block w4.heap.size (by simp)).trans HY4.out)
  have HV5 := Lib.hid (HV4.out.bl hb5)
  obtain ⟨⟨e0, e1, e2, e3, e4, e5, e6, e7⟩, -⟩ := eight HX5.out
  obtain ⟨⟨i0, i1, i2, i3, i4, i5, i6, i7⟩, -⟩ := eight HY5.out
  clear hb5
  go_wp2_with fail
  (with_reducible refine (num16_any _ _).mono ?_)
  rintro e w' ⟨rfl, rfl⟩
  go_wp2_with fail
  (with_reducible refine (num16_any _ _).mono ?_)
  rintro e w' ⟨rfl, rfl⟩
  go_wp2_with fail
  refine (HSM.out _ _ _ (HV.out.bl HB5.out) HV5.out).mono ?_
  rintro e w6 ⟨rfl, hb6⟩
  have HB6 := Lib.hid (HB5.out.call hb6)
  clear hb6 e0 e1 e2 e3 e4 e5 e6 e7 i0 i1 i2 i3 i4 i5 i6 i7
  go_wp2_with fail
  (with_reducible refine (works16_any _ (HG.out.bl HB6.out)).mono ?_)
  rintro e w7 ⟨rfl, hb7⟩
  go_wp2
  go_ret
  exact ⟨rfl, HB6.out.call hb7⟩
--END3
theorem eholds_all (x : Ex) (W : World) (v : Value) (hv : ReadsE W x v) (hF : Fits x) (hG : Glob W) : Calls Tryz.prog 5 #[v] W (Yes W) := by
  have hva : ∀ w, Bl W w → Calls Tryz.prog 19 #[v, .int .i64 200] w fun e w' => e = .returned (.bool (decide (200 < pV 200 x))) ∧ Bl w w' := fun w hb => vast16_any x 200 200 w v rfl (by omega) (hv.bl hb)
  by_cases hb : 200 < pV 200 x
  · rw [decide_eq_true hb] at hva
    exact eholds_off x W v hv hG true [] 0 0 (.inl rfl) hva (fun h => by cases h) (fun h => by cases h) (.inl rfl) (by simp)
  · rw [decide_eq_false hb] at hva
    obtain ⟨hp, hS⟩ := pV_parts 200 x (by omega)
    have hL := hS.lens
    have hlen : checkB x = true → (textE x).length ≤ 100000000 := fun hC => by
      have := text_sum x hS hF hC
      omega
    have htx : ∀ w, Bl W w → Calls Tryz.prog 20 #[v] w fun e w' => e = .returned (.tuple #[S (textN x), .int .i64 (ckN x)]) ∧ Bl w w' := fun w hb => eText_any (by omega) hF hL hlen w v (hv.bl hb) (hG.bl hb)
    have hde : ∀ w, Bl W w → Calls Tryz.prog 21 #[v] w fun e w' => e = .returned (.int .i64 (deepE x : Int)) ∧ Bl w w' := fun w hb => deep16_any _ x (Nat.le_refl _) (by omega) w v (hv.bl hb)
    cases hC : checkB x
    · exact eholds_off x W v hv hG false _ _ _ (.inr (by unfold ckN; rw [hC]; rfl)) hva (fun _ => htx) (fun _ => hde) (.inr (.inl (by unfold ckN; rw [hC]; rfl))) (by unfold textN; rw [hC]; simp)
    · have e1 : textN x = textE x := if_pos hC
      have e2 : ckN x = 0 := if_pos hC
      rw [e1, e2] at htx
      by_cases hl : 4000 < (textE x).length
      · exact eholds_off x W v hv hG false _ _ _ (.inl rfl) hva (fun _ => htx) (fun _ => hde) (.inr (.inr (.inl hl))) (hlen hC)
      by_cases hd : 60 < deepE x
      · exact eholds_off x W v hv hG false _ _ _ (.inl rfl) hva (fun _ => htx) (fun _ => hde) (.inr (.inr (.inr (by omega)))) (hlen hC)
      exact eholds_on x W v hv hG (by omega) hC hF hL (by omega) (by omega) hva
end Go.Proofs.YtepkfkfedmbmnaaGreatDoor
