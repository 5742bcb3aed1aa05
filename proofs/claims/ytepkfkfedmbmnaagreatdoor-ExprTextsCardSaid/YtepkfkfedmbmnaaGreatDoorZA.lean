/- The program's Sums. -/
import Derived.Test.YtepkfkfedmbmnaaGreatDoorX4
namespace Go.Proofs.YtepkfkfedmbmnaaGreatDoor
open Go.RowKit
set_option maxRecDepth 100000

--BEGIN1
set_option maxHeartbeats 4000000 in
theorem eIndexE_any {W : World} {a : Option Addr} {cap : Nat} {l : List Ex} (hlen : l.length ≤ 1000000) (hR : ReadsL W (.slice a l.length cap) l) (hf : ∀ y ∈ l, ∀ (W' : World) (v : Value), Bl W W' → ReadsE W' y v → Calls Tryz.prog 23 #[v] W' fun e w' => e = .returned (.bool (sumsB y)) ∧ Bl W' w') :
    Calls Tryz.prog 69 #[.slice a l.length cap, .func (.func 23) #[] #[]] W fun e w' => (∃ z : Int, e = .returned (.int .i64 z) ∧ decide (0 ≤ z) = sumsBs l) ∧ Bl W w' := by
  have hen : ∀ (args : Array Value) (w : World), (callFunc 23 args).run Tryz.prog w = .ok (.enter 23 args) w := fun args w => by simp [go_sem]
  obtain ⟨a', cap', e, hc⟩ := hR.shape
  obtain ⟨rfl, rfl⟩ : a = a' ∧ cap = cap' := by simpa using e
  have HC := Lib.hid hc
  have HF := Lib.hid hf
  clear hR hc hf e
  go_enter Tryz.func69, Tryz.ntmps69
  go_wp2_with fail
  go_loopw [8] (fun i wr => ∃ j : Nat, j ≤ l.length ∧ i = .int .i64 (j : Int) ∧ Hid (sumsBs l = sumsBs (l.drop j)) ∧ Hid (Bl W wr)) (fun i _ => l.length - (intOf i).toNat)
  case atStart => exact ⟨0, Nat.zero_le _, rfl, rfl, Bl.refl W⟩
  case round =>
    obtain ⟨j, hj, rfl, HD, HB⟩ := hrel
    by_cases hlt : j < l.length
    · obtain ⟨b, off, s, rfl, h8, hr⟩ := HC.out j hlt
      have HDj := Lib.hid (sums_drop hlt)
      have HM := Lib.hid (List.getElem_mem hlt)
      have HR := Lib.hid (hr.bl HB.out)
      obtain ⟨e0, e1, e2, e3, e4, e5, e6, e7⟩ := h8.bl HB.out
      have hlt' : (j : Int) < (l.length : Int) := by omega
      clear h8 hr
      generalize l[j] = y at *
      obtain ⟨k', ⟨v1', v2', v3'⟩, t', nm', o', args'⟩ := y
      simp only [Ex.k, Ex.v, Ex.t, Ex.n, Ex.o] at e0 e1 e2 e3 e4 e5 e6
      go_wp2_with fail
      have hRE : ReadsE wr (.mk k' (v1', v2', v3') t' nm' o' args') (EV k' (v1', v2', v3') t' nm' o' s) := ⟨s, rfl, HR.out⟩
      refine (HF.out _ HM.out _ _ HB.out hRE).mono ?_
      rintro e w1 ⟨rfl, hb1⟩
      have HB1 := Lib.hid (HB.out.call hb1)
      clear hb1 hRE e0 e1 e2 e3 e4 e5 e6 e7
      cases hs : sumsB (.mk k' (v1', v2', v3') t' nm' o' args')
      · have HN := Lib.hid (show sumsBs l = sumsBs (l.drop (j + 1)) from by rw [HD.out, HDj.out, hs, Bool.false_or])
        clear hs
        go_wp2
        go_roundw
        case rel => exact ⟨j + 1, by omega, by go_num, HN.out, HB1.out⟩
        case measure => simp [intOf]; omega
      · have HN := Lib.hid (show decide (0 ≤ (j : Int)) = sumsBs l from by rw [HD.out, HDj.out, hs, Bool.true_or]; simp)
        clear hs
        go_wp2
        go_ret
        exact ⟨⟨_, rfl, HN.out⟩, HB1.out⟩
    · obtain rfl : j = l.length := by omega
      have HN := Lib.hid (show decide (0 ≤ (-1 : Int)) = sumsBs l from by rw [HD.out, List.drop_length]; rfl)
      go_wp2
      go_ret
      exact ⟨⟨_, rfl, HN.out⟩, HB.out⟩
--END1
--BEGIN2
set_option maxHeartbeats 4000000 in
theorem eSums_any : ∀ (n : Nat) (x : Ex), partsE x ≤ n → n ≤ 1000000 → ∀ (W : World) (v : Value), ReadsE W x v → Calls Tryz.prog 23 #[v] W fun e w' => e = .returned (.bool (sumsB x)) ∧ Bl W w'
  | 0, x, h, _, _, _, _ => by have := parts_pos x; omega
  | n + 1, x, hx, hn, W, v, hv => by
    obtain ⟨sv, rfl, hL⟩ := hv
    have IH : Hid (∀ y ∈ x.args, ∀ (W' : World) (v : Value), Bl W W' → ReadsE W' y v → Calls Tryz.prog 23 #[v] W' fun e w' => e = .returned (.bool (sumsB y)) ∧ Bl W' w') := fun y hy W' v _ hv => eSums_any n y (by have := parts_arg hy; omega) (by omega) W' v hv
    have hlen : x.args.length ≤ 1000000 := by have := parts_len x; omega
    obtain ⟨k, ⟨v1, v2, v3⟩, t, nm, o, args⟩ := x
    replace hlen : args.length ≤ 1000000 := hlen
    replace hL : ReadsL W sv args := hL
    obtain ⟨a, cap, rfl, -⟩ := hL.shape
    have HI : Hid (∀ w, Bl W w → Calls Tryz.prog 69 #[.slice a args.length cap, .func (.func 23) #[] #[]] w fun e w' => (∃ z : Int, e = .returned (.int .i64 z) ∧ decide (0 ≤ z) = sumsBs args) ∧ Bl w w') := fun w hb => eIndexE_any hlen (hL.bl hb) fun y hy W' v hb' hv => IH.out y hy W' v (hb.call hb') hv
    show Calls Tryz.prog 23 #[EV k (v1, v2, v3) t nm o (.slice a args.length cap)] W fun e w' => e = .returned (.bool (sumsB (.mk k (v1, v2, v3) t nm o args))) ∧ Bl W w'
    have HS : Hid (sumsB (.mk k (v1, v2, v3) t nm o args) = (k == 5 || sumsBs args)) := by show _ = _; simp only [sumsB]
    rw [HS.out]
    generalize sumsBs args = bs at *
    clear hL hx IH hlen
    generalize args.length = m at *
    have HCt : Hid (∀ w, Bl W w → Calls Tryz.prog 44 #[.slice a m cap, .func (.func 23) #[] #[]] w fun e w' => e = .returned (.bool bs) ∧ Bl w w') := fun w hb => by
      have H1 := Lib.hid (HI.out w hb)
      clear HI
      go_enter Tryz.func44, Tryz.ntmps44
      go_wp2_with fail
      refine H1.out.mono ?_
      rintro e w1 ⟨⟨z, rfl, hz⟩, hb1⟩
      have HZ := Lib.hid hz
      clear hz
      go_wp2
      go_ret
      exact ⟨by rw [← HZ.out]; rfl, hb1⟩
    clear HI
    by_cases h5 : k = 5
    · subst h5
      go_enter Tryz.func23, Tryz.ntmps23
      go_wp2
      go_ret
      exact ⟨rfl, (Bl.refl W).alloc _⟩
    · have hb5 : (k == 5) = false := by simpa using h5
      rw [hb5, Bool.false_or]
      clear h5
      go_enter Tryz.func23, Tryz.ntmps23
      go_wp2_with fail
      refine (HCt.out _ ((Bl.refl W).alloc _)).mono ?_
      rintro e w1 ⟨rfl, hb1⟩
      go_wp2
      go_ret
      exact ⟨rfl, ((Bl.refl W).alloc _).call hb1⟩
--END2

end Go.Proofs.YtepkfkfedmbmnaaGreatDoor
