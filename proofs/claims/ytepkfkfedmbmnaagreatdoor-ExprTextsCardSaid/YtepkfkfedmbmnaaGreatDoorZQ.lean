/- The law's guards: parts, vast, deep. -/
import Derived.Test.YtepkfkfedmbmnaaGreatDoorZP
import Derived.Lib.MinMax
namespace Go.Proofs.YtepkfkfedmbmnaaGreatDoor
open Go.RowKit
set_option maxRecDepth 100000

--BEGIN1
set_option maxHeartbeats 4000000 in
theorem parts16_any : ∀ (m : Nat) (x : Ex), SizeOf.sizeOf x ≤ m → ∀ (q : Int) (most : Nat) (W : World) (v : Value), q = (most : Int) → most ≤ 1000 → ReadsE W x v → Calls Tryz.prog 41 #[v, .int .i64 q] W fun e w' => e = .returned (.int .i64 (pV most x : Int)) ∧ Bl W w'
  | 0, x, h, _, _, _, _, _, _, _ => by cases x; simp at h
  | m + 1, x, hx, q, most, W, v, hq, hm, hv => by
    subst hq
    obtain ⟨sv, rfl, hL⟩ := hv
    obtain ⟨a, cap, rfl, hc⟩ := hL.shape
    have IH : Hid (∀ y ∈ x.args, ∀ (q : Int) (most : Nat) (W : World) (v : Value), q = (most : Int) → most ≤ 1000 → ReadsE W y v → Calls Tryz.prog 41 #[v, .int .i64 q] W fun e w' => e = .returned (.int .i64 (pV most y : Int)) ∧ Bl W w') := fun y hy => parts16_any m y (by have := ex_size hy; omega)
    have HC := Lib.hid hc
    clear hc hL hx
    obtain ⟨k, ⟨v1, v2, v3⟩, t, nm, o, args⟩ := x
    simp only [Ex.k, Ex.v, Ex.t, Ex.n, Ex.o, Ex.args] at *
    by_cases hb1 : 1100 < v3.length
    · have h1 : (1100 : Int) < (v3.length : Int) := by omega
      have HE : Hid ((pV most (.mk k (v1, v2, v3) t nm o args) : Int) = (most : Int) + 1) := by show _ = _; simp [pV, bigB, hb1]
      rw [HE.out]
      clear hb1
      go_enter Tryz.func41, Tryz.ntmps41
      go_wp2
      go_ret
      exact ⟨by go_num, (Bl.refl W).alloc _⟩
    by_cases hb2 : 100 < t.length
    · have h1 : ¬ (1100 : Int) < (v3.length : Int) := by omega
      have h2 : (100 : Int) < (t.length : Int) := by omega
      have HE : Hid ((pV most (.mk k (v1, v2, v3) t nm o args) : Int) = (most : Int) + 1) := by show _ = _; simp [pV, bigB, hb2]
      rw [HE.out]
      clear hb1 hb2
      go_enter Tryz.func41, Tryz.ntmps41
      go_wp2
      go_ret
      exact ⟨by go_num, (Bl.refl W).alloc _⟩
    by_cases hb3 : 100 < nm.length
    · have h1 : ¬ (1100 : Int) < (v3.length : Int) := by omega
      have h2 : ¬ (100 : Int) < (t.length : Int) := by omega
      have h3 : (100 : Int) < (nm.length : Int) := by omega
      have HE : Hid ((pV most (.mk k (v1, v2, v3) t nm o args) : Int) = (most : Int) + 1) := by show _ = _; simp [pV, bigB, hb3]
      rw [HE.out]
      clear hb1 hb2 hb3
      go_enter Tryz.func41, Tryz.ntmps41
      go_wp2
      go_ret
      exact ⟨by go_num, (Bl.refl W).alloc _⟩
    have h1 : ¬ (1100 : Int) < (v3.length : Int) := by omega
    have h2 : ¬ (100 : Int) < (t.length : Int) := by omega
    have h3 : ¬ (100 : Int) < (nm.length : Int) := by omega
    have HE : Hid (pV most (.mk k (v1, v2, v3) t nm o args) = pVs most 1 args) := by show _ = _; simp [pV, bigB, hb1, hb2, hb3]
    rw [HE.out]
    clear hb1 hb2 hb3 HE
    obtain ⟨R, HRR⟩ : ∃ R, Hid (pVs most 1 args = R) := ⟨_, rfl⟩
    rw [HRR.out]
    go_enter Tryz.func41, Tryz.ntmps41
    go_wp2_with fail
    clear h1 h2 h3
    go_loopw [5, 6] (fun n i wr => ∃ j z : Nat, j ≤ args.length ∧ j < z ∧ z ≤ most + 1 ∧ n = .int .i64 (z : Int) ∧ i = .int .i64 (j : Int) ∧ Hid (R = pVs most z (args.drop j)) ∧ Bl W wr ∧
      Hid (wr.heap[W.heap.size]? = some (.cells #[.int .i64 k, .int .i64 v1, .int .i64 v2, S v3, S t, S nm, .int .i64 o, .slice a args.length cap] 30 (0, 0)))) (fun _ i _ => args.length - (intOf i).toNat)
    case atStart => exact ⟨0, 1, Nat.zero_le _, by omega, by omega, rfl, rfl, HRR.out.symm, (Bl.refl W).alloc _, heap_new _ _⟩
    case round =>
      obtain ⟨j, z, hj, hjz, hz, rfl, rfl, HD, hB, HX⟩ := hrel
      obtain ⟨⟨-, -, -, -, -, -, -, c7⟩, -⟩ := eight HX.out
      by_cases hlt : j < args.length
      · have hltI : (j : Int) < (args.length : Int) := by omega
        by_cases hzm : z ≤ most
        · have hzI : (z : Int) ≤ (most : Int) := by omega
          obtain ⟨b, off, s, rfl, h8, hr⟩ := HC.out j hlt
          have HB := Lib.hid hB
          have HY := Lib.hid (IH.out _ (List.getElem_mem hlt))
          have HDj := Lib.hid (pVs_drop hlt hzm)
          have HPL := Lib.hid (pV_le (most - z) args[j])
          have HR := Lib.hid (hr.bl hB)
          obtain ⟨e0, e1, e2, e3, e4, e5, e6, e7⟩ := h8.bl hB
          clear h8 hr hB
          generalize hy : args[j] = y at *
          clear hy
          obtain ⟨k', ⟨v1', v2', v3'⟩, t', nm', o', args'⟩ := y
          simp only [Ex.k, Ex.v, Ex.t, Ex.n, Ex.o] at e0 e1 e2 e3 e4 e5 e6
          go_wp2_with fail
          have hRE : ReadsE wr (.mk k' (v1', v2', v3') t' nm' o' args') (EV k' (v1', v2', v3') t' nm' o' s) := ⟨s, rfl, HR.out⟩
          (with_reducible refine (HY.out _ (most - z) _ _ (by go_num) (by omega) hRE).mono ?_)
          rintro e w1 ⟨rfl, hb1⟩
          have HB1 := Lib.hid (HB.out.call hb1)
          have HX1 := Lib.hid ((hb1.block _ (Array.getElem?_eq_some_iff.1 HX.out).1).trans HX.out)
          clear hb1 e0 e1 e2 e3 e4 e5 e6 e7 c7
          obtain ⟨g, HG⟩ : ∃ g, Hid (pV (most - z) (.mk k' (v1', v2', v3') t' nm' o' args') = g) := ⟨_, rfl⟩
          rw [HG.out]
          have hg : 1 ≤ g ∧ g ≤ most - z + 1 := by have := HPL.out; rw [HG.out] at this; exact this
          go_wp2
          go_roundw
          case rel => exact ⟨j + 1, z + g, by omega, by omega, by omega, by go_num, by go_num, by show _ = _; rw [HD.out, HDj.out, HG.out], HB1.out, HX1.out⟩
          case measure => simp [intOf]; omega
        · have hzI : ¬ (z : Int) ≤ (most : Int) := by omega
          have HE : Hid (R = z) := by show _ = _; rw [HD.out, pVs_stop (by omega)]
          go_wp2
          go_ret
          exact ⟨by rw [HE.out] <;> rfl, hB⟩
      · have hltI : ¬ (j : Int) < (args.length : Int) := by omega
        obtain rfl : j = args.length := by omega
        have HE : Hid (R = z) := by show _ = _; rw [HD.out, List.drop_length]; simp only [pVs]
        go_wp2
        go_ret
        exact ⟨by rw [HE.out] <;> rfl, hB⟩
--END1
--BEGIN2
set_option maxHeartbeats 1000000 in
theorem vast16_any (x : Ex) (q : Int) (most : Nat) (W : World) (v : Value) (hq : q = (most : Int)) (hm : most ≤ 1000) (hv : ReadsE W x v) : Calls Tryz.prog 19 #[v, .int .i64 q] W fun e w' => e = .returned (.bool (decide (most < pV most x))) ∧ Bl W w' := by
  have HP : Hid (∀ w, Bl W w → Calls Tryz.prog 41 #[v, .int .i64 q] w fun e w' => e = .returned (.int .i64 (pV most x : Int)) ∧ Bl w w') := fun w hb => parts16_any _ x (Nat.le_refl _) q most w v hq hm (hv.bl hb)
  subst hq
  obtain ⟨sv, rfl, hL⟩ := hv
  obtain ⟨a, cap, rfl, -⟩ := hL.shape
  clear hL
  obtain ⟨g, HG⟩ : ∃ g, Hid (pV most x = g) := ⟨_, rfl⟩
  rw [HG.out] at HP ⊢
  clear HG
  obtain ⟨k, ⟨v1, v2, v3⟩, t, nm, o, args⟩ := x
  simp only [Ex.k, Ex.v, Ex.t, Ex.n, Ex.o, Ex.args] at *
  have HB0 := Lib.hid ((Bl.refl W).alloc (.cells #[.int .i64 k, .int .i64 v1, .int .i64 v2, S v3, S t, S nm, .int .i64 o, .slice a args.length cap] 30))
  go_enter Tryz.func19, Tryz.ntmps19
  go_wp2_with fail
  refine (HP.out _ HB0.out).mono ?_
  rintro e w1 ⟨rfl, hb1⟩
  go_wp2
  go_ret
  refine ⟨?_, HB0.out.call hb1⟩
  congr 2 <;> (simp only [decide_eq_decide]; omega)
--END2
theorem deeps_take {l : List Ex} {j : Nat} (hj : j < l.length) : deepsE (l.take (j + 1)) = max (deepsE (l.take j)) (deepE l[j]) := by
  rw [take_snoc l hj]
  generalize l.take j = p
  induction p with
  | nil => simp [deepsE]
  | cons y p ih => simp only [List.cons_append, deepsE, ih]; omega
theorem deeps_take_le (l : List Ex) (j : Nat) : deepsE (l.take j) ≤ deepsE l := by
  induction l generalizing j with
  | nil => simp
  | cons y p ih => cases j with
    | zero => simp [deepsE]
    | succ j => simp only [List.take_succ_cons, deepsE]; have := ih j; omega
mutual
theorem deep_parts : ∀ x : Ex, deepE x ≤ 2 * partsE x
  | .mk k v t n o args => by
    have h := deeps_parts args
    simp only [deepE, partsE]
    split <;> split <;> omega
theorem deeps_parts : ∀ l : List Ex, deepsE l ≤ 2 * partssE l
  | [] => by simp [deepsE]
  | x :: r => by
    have h1 := deep_parts x
    have h2 := deeps_parts r
    simp only [deepsE, partssE]
    omega
end
--BEGIN3
set_option maxHeartbeats 4000000 in
theorem deep16_any : ∀ (m : Nat) (x : Ex), partsE x ≤ m → m ≤ 1000000 → ∀ (W : World) (v : Value), ReadsE W x v → Calls Tryz.prog 21 #[v] W fun e w' => e = .returned (.int .i64 (deepE x : Int)) ∧ Bl W w'
  | 0, x, h, _, _, _, _ => by have := parts_pos x; omega
  | m + 1, x, hx, hmm, W, v, hv => by
    obtain ⟨sv, rfl, hL⟩ := hv
    obtain ⟨a, cap, rfl, hc⟩ := hL.shape
    have IH : Hid (∀ y ∈ x.args, ∀ (W : World) (v : Value), ReadsE W y v → Calls Tryz.prog 21 #[v] W fun e w' => e = .returned (.int .i64 (deepE y : Int)) ∧ Bl W w') := fun y hy => deep16_any m y (by have := parts_arg hy; omega) (by omega)
    have HC := Lib.hid hc
    have hlen : x.args.length ≤ 1000000 := by have := parts_len x; omega
    have hdl : deepsE x.args ≤ 2000002 := by have := deeps_parts x.args; have := parts_eta x; omega
    clear hc hL hx
    obtain ⟨k, ⟨v1, v2, v3⟩, t, nm, o, args⟩ := x
    simp only [Ex.k, Ex.v, Ex.t, Ex.n, Ex.o, Ex.args] at *
    obtain ⟨R, HRR⟩ : ∃ R, Hid (deepE (.mk k (v1, v2, v3) t nm o args) = R) := ⟨_, rfl⟩
    rw [HRR.out]
    go_enter Tryz.func21, Tryz.ntmps21
    go_wp2_with fail
    go_loopw [3, 4] (fun n i wr => ∃ j : Nat, j ≤ args.length ∧ n = .int .i64 (deepsE (args.take j) : Int) ∧ i = .int .i64 (j : Int) ∧ Bl W wr ∧
      Hid (wr.heap[W.heap.size]? = some (.cells #[.int .i64 k, .int .i64 v1, .int .i64 v2, S v3, S t, S nm, .int .i64 o, .slice a args.length cap] 30 (0, 0)))) (fun _ i _ => args.length - (intOf i).toNat)
    case atStart => exact ⟨0, Nat.zero_le _, by simp [deepsE], rfl, (Bl.refl W).alloc _, heap_new _ _⟩
    case round =>
      obtain ⟨j, hj, rfl, rfl, hB, HX⟩ := hrel
      obtain ⟨⟨-, -, -, -, -, -, c6, c7⟩, -⟩ := eight HX.out
      by_cases hlt : j < args.length
      · have hltI : (j : Int) < (args.length : Int) := by omega
        obtain ⟨b, off, s, rfl, h8, hr⟩ := HC.out j hlt
        have HB := Lib.hid hB
        have HY := Lib.hid (IH.out _ (List.getElem_mem hlt))
        have HDj := Lib.hid (deeps_take hlt)
        have HR := Lib.hid (hr.bl hB)
        obtain ⟨e0, e1, e2, e3, e4, e5, e6, e7⟩ := h8.bl hB
        clear h8 hr hB
        generalize hy : args[j] = y at *
        clear hy
        obtain ⟨k', ⟨v1', v2', v3'⟩, t', nm', o', args'⟩ := y
        simp only [Ex.k, Ex.v, Ex.t, Ex.n, Ex.o] at e0 e1 e2 e3 e4 e5 e6
        go_wp2_with fail
        have hRE : ReadsE wr (.mk k' (v1', v2', v3') t' nm' o' args') (EV k' (v1', v2', v3') t' nm' o' s) := ⟨s, rfl, HR.out⟩
        (with_reducible refine (HY.out _ _ hRE).mono ?_)
        rintro e w1 ⟨rfl, hb1⟩
        have HB1 := Lib.hid (HB.out.call hb1)
        have HX1 := Lib.hid ((hb1.block _ (Array.getElem?_eq_some_iff.1 HX.out).1).trans HX.out)
        clear hb1 e0 e1 e2 e3 e4 e5 e6 e7 c6 c7
        go_wp2
        go_roundw
        case rel => exact ⟨j + 1, by omega, by rw [HDj.out]; congr 1; omega, by go_num, HB1.out, HX1.out⟩
        case measure => simp [intOf]; omega
      · have hltI : ¬ (j : Int) < (args.length : Int) := by omega
        obtain rfl : j = args.length := by omega
        rw [List.take_length]
        obtain ⟨g, HG⟩ : ∃ g, Hid (deepsE args = g) := ⟨_, rfl⟩
        have HE : Hid (R = (if args.isEmpty then 0 else 1) + g + (if o = 16 ∨ o = 15 then 1 else 0)) := by show _ = _; rw [← HRR.out, ← HG.out]; simp only [deepE]
        rw [HG.out] at hdl ⊢
        have HB := Lib.hid hB
        clear hB HG
        by_cases h0 : args.length = 0
        · have he : args = [] := List.eq_nil_of_length_eq_zero h0
          have h0' : ¬ (0 : Int) < (args.length : Int) := by omega
          have HA : Hid (args.isEmpty = true) := by show _ = _; rw [he]; rfl
          by_cases h16 : o = 16
          · subst h16
            go_wp2
            go_ret
            exact ⟨by rw [HE.out, HA.out] <;> first | rfl | (simp; done) | (simp; go_num), HB.out⟩
          by_cases h15 : o = 15
          · subst h15
            go_wp2
            go_ret
            exact ⟨by rw [HE.out, HA.out] <;> first | rfl | (simp; done) | (simp; go_num), HB.out⟩
          · have HO : Hid (¬ (o = 16 ∨ o = 15)) := by show ¬ _; omega
            have b16 : (o == 16) = false := by simpa using h16
            have b15 : (o == 15) = false := by simpa using h15
            clear h16 h15
            go_wp2
            go_ret
            exact ⟨by rw [HE.out, HA.out, if_neg HO.out] <;> first | rfl | (simp; done), HB.out⟩
        · have h0' : (0 : Int) < (args.length : Int) := by omega
          have HA : Hid (args.isEmpty = false) := by show _ = _; cases args with | nil => exact absurd rfl h0 | cons _ _ => rfl
          by_cases h16 : o = 16
          · subst h16
            go_wp2
            go_ret
            exact ⟨by rw [HE.out, HA.out] <;> first | rfl | (simp; done) | (simp; go_num), HB.out⟩
          by_cases h15 : o = 15
          · subst h15
            go_wp2
            go_ret
            exact ⟨by rw [HE.out, HA.out] <;> first | rfl | (simp; done) | (simp; go_num), HB.out⟩
          · have HO : Hid (¬ (o = 16 ∨ o = 15)) := by show ¬ _; omega
            have b16 : (o == 16) = false := by simpa using h16
            have b15 : (o == 15) = false := by simpa using h15
            clear h16 h15
            go_wp2
            go_ret
            exact ⟨by rw [HE.out, HA.out, if_neg HO.out] <;> first | rfl | (simp; done) | (simp; go_num), HB.out⟩
--END3
end Go.Proofs.YtepkfkfedmbmnaaGreatDoor
