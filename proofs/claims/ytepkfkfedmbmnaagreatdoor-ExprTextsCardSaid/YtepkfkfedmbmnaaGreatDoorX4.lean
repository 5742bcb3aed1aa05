/- The reference of layer 16: Sums, Same. -/
import Derived.Test.YtepkfkfedmbmnaaGreatDoorMX
namespace Go.Proofs.YtepkfkfedmbmnaaGreatDoor
open Go.RowKit
set_option maxRecDepth 100000

theorem At8.bl {W W' : World} {b o : Nat} {x : Ex} {sv : Value} (hb : Bl W W') (h : At8 W b o x sv) : At8 W' b o x sv :=
  h.keep (hb.block b (by have := World.block_lt_of_cell? _ _ h.1; simpa using this))

--BEGIN1
set_option maxHeartbeats 4000000 in
theorem xSums_any : ∀ (n : Nat) (x : Ex), partsE x ≤ n → n ≤ 1000000 → ∀ (W : World) (v : Value), ReadsE W x v → Calls Tryz.prog 24 #[v] W fun e w' => e = .returned (.bool (sumsB x)) ∧ Bl W w'
  | 0, x, h, _, _, _, _ => by have := parts_pos x; omega
  | n + 1, x, hx, hn, W, v, hv => by
    obtain ⟨sv, rfl, hL⟩ := hv
    obtain ⟨a, cap, rfl, hc⟩ := hL.shape
    have IH := Lib.hid (xSums_any n)
    have HC := Lib.hid hc
    have hlen : x.args.length ≤ 1000000 := by have := parts_len x; omega
    have HP := Lib.hid (show ∀ y ∈ x.args, partsE y ≤ n from fun y hy => by have := parts_arg hy; omega)
    clear hc hL hx
    obtain ⟨k, ⟨v1, v2, v3⟩, t, nm, o, args⟩ := x
    simp only [Ex.k, Ex.v, Ex.t, Ex.n, Ex.o, Ex.args] at *
    by_cases h5 : k = 5
    · subst h5
      clear hlen
      go_enter Tryz.func24, Tryz.ntmps24
      go_wp2
      go_ret
      exact ⟨by simp [sumsB], (Bl.refl W).alloc _⟩
    · have hb5 : (k == 5) = false := by simpa using h5
      have HS : Hid (sumsB (.mk k (v1, v2, v3) t nm o args) = sumsBs args) := by show _ = _; simp only [sumsB]; rw [hb5]; rfl
      clear h5
      go_enter Tryz.func24, Tryz.ntmps24
      go_wp2_with fail
      go_loopw [3] (fun i wr => ∃ j : Nat, j ≤ args.length ∧ i = .int .i64 (j : Int) ∧ Hid (sumsBs args = sumsBs (args.drop j)) ∧ Bl W wr ∧
        Hid (wr.heap[W.heap.size]? = some (.cells #[.int .i64 k, .int .i64 v1, .int .i64 v2, S v3, S t, S nm, .int .i64 o, .slice a args.length cap] 30 (0, 0)))) (fun i _ => args.length - (intOf i).toNat)
      case atStart => exact ⟨0, Nat.zero_le _, rfl, by simp [Hid], (Bl.refl W).alloc _, heap_new _ _⟩
      case round =>
        obtain ⟨j, hj, rfl, HD, hB, HX⟩ := hrel
        obtain ⟨⟨-, -, -, -, -, -, -, c7⟩, -⟩ := eight HX.out
        by_cases hlt : j < args.length
        · obtain ⟨b, off, s, rfl, h8, hr⟩ := HC.out j hlt
          have HB := Lib.hid hB
          have HY := Lib.hid (HP.out _ (List.getElem_mem hlt))
          have HDj := Lib.hid (sums_drop hlt)
          have HR := Lib.hid (hr.bl hB)
          obtain ⟨e0, e1, e2, e3, e4, e5, e6, e7⟩ := h8.bl hB
          clear h8 hr hB
          generalize hy : args[j] = y at *
          clear hy
          obtain ⟨k', ⟨v1', v2', v3'⟩, t', nm', o', args'⟩ := y
          simp only [Ex.k, Ex.v, Ex.t, Ex.n, Ex.o] at e0 e1 e2 e3 e4 e5 e6
          go_wp2_with fail
          have hRE : ReadsE wr (.mk k' (v1', v2', v3') t' nm' o' args') (EV k' (v1', v2', v3') t' nm' o' s) := ⟨s, rfl, HR.out⟩
          (with_reducible refine (IH.out _ HY.out (by omega) _ _ hRE).mono ?_)
          rintro e w1 ⟨rfl, hb1⟩
          have HB1 := Lib.hid (HB.out.call hb1)
          have HX1 := Lib.hid ((hb1.block _ (Array.getElem?_eq_some_iff.1 HX.out).1).trans HX.out)
          clear hb1 e0 e1 e2 e3 e4 e5 e6 e7 c7
          have hj1 : (j : Int) < (args.length : Int) := by omega
          cases hs : sumsB (.mk k' (v1', v2', v3') t' nm' o' args')
          · have HF := Lib.hid hs
            clear hs
            go_wp2
            go_roundw
            case rel => exact ⟨j + 1, by omega, by go_num, by show _ = _; rw [HD.out, HDj.out, HF.out]; rfl, HB1.out, HX1.out⟩
            case measure => simp [intOf]; omega
          · have HF := Lib.hid hs
            clear hs
            go_wp2
            go_ret
            exact ⟨by rw [HS.out, HD.out, HDj.out, HF.out]; rfl, HB1.out⟩
        · obtain rfl : j = args.length := by omega
          have HE : Hid (sumsB (.mk k (v1, v2, v3) t nm o args) = false) := by show _ = _; rw [HS.out, HD.out, List.drop_length]; rfl
          go_wp2
          go_ret
          exact ⟨by rw [HE.out]; rfl, hB⟩
--END1
--BEGIN2
set_option maxHeartbeats 16000000 in
theorem xSame_any : ∀ (n : Nat) (x y : Ex), partsE x ≤ n → n ≤ 1000000 → ∀ (W : World) (v u : Value), ReadsE W x v → ReadsE W y u → Calls Tryz.prog 10 #[v, u] W fun e w' => e = .returned (.bool (sameB x y)) ∧ Bl W w'
  | 0, x, _, h, _, _, _, _, _, _ => by have := parts_pos x; omega
  | n + 1, x, y, hx, hn, W, v, u, hv, hu => by
    obtain ⟨sv, rfl, hL⟩ := hv
    obtain ⟨a, cap, rfl, hc⟩ := hL.shape
    obtain ⟨su, rfl, hM⟩ := hu
    obtain ⟨a2, cap2, rfl, hc2⟩ := hM.shape
    have IH := Lib.hid (xSame_any n)
    have HC := Lib.hid hc
    have HC2 := Lib.hid hc2
    have hlen : x.args.length ≤ 1000000 := by have := parts_len x; omega
    have HP := Lib.hid (show ∀ y ∈ x.args, partsE y ≤ n from fun y hy => by have := parts_arg hy; omega)
    clear hc hL hx hc2 hM
    obtain ⟨k, ⟨v1, v2, v3⟩, t, nm, o, args⟩ := x
    obtain ⟨k2, ⟨u1, u2, u3⟩, t2, nm2, o2, args2⟩ := y
    simp only [Ex.k, Ex.v, Ex.t, Ex.n, Ex.o, Ex.args] at *
    by_cases hk : k = k2
    case neg =>
      have HE : Hid (sameB (.mk k (v1, v2, v3) t nm o args) (.mk k2 (u1, u2, u3) t2 nm2 o2 args2) = false) := by show _ = _; simp [sameB, hk]
      have hb : (k == k2) = false := by simpa using hk
      have hb' : (k != k2) = true := by simpa using hk
      clear hlen
      go_enter Tryz.func10, Tryz.ntmps10
      go_wp2
      go_ret
      exact ⟨by rw [HE.out]; rfl, ((Bl.refl W).alloc _).alloc _⟩
    subst hk
    by_cases hv1 : v1 = u1
    case neg =>
      have HE : Hid (sameB (.mk k (v1, v2, v3) t nm o args) (.mk k (u1, u2, u3) t2 nm2 o2 args2) = false) := by show _ = _; simp [sameB, hv1]
      have hb : (v1 == u1) = false := by simpa using hv1
      have hb' : (v1 != u1) = true := by simpa using hv1
      clear hlen
      go_enter Tryz.func10, Tryz.ntmps10
      go_wp2
      go_ret
      exact ⟨by rw [HE.out]; rfl, ((Bl.refl W).alloc _).alloc _⟩
    subst hv1
    by_cases hv2 : v2 = u2
    case neg =>
      have HE : Hid (sameB (.mk k (v1, v2, v3) t nm o args) (.mk k (v1, u2, u3) t2 nm2 o2 args2) = false) := by show _ = _; simp [sameB, hv2]
      have hb : (v2 == u2) = false := by simpa using hv2
      have hb' : (v2 != u2) = true := by simpa using hv2
      clear hlen
      go_enter Tryz.func10, Tryz.ntmps10
      go_wp2
      go_ret
      exact ⟨by rw [HE.out]; rfl, ((Bl.refl W).alloc _).alloc _⟩
    subst hv2
    by_cases hv3 : v3 = u3
    case neg =>
      have HE : Hid (sameB (.mk k (v1, v2, v3) t nm o args) (.mk k (v1, v2, u3) t2 nm2 o2 args2) = false) := by show _ = _; simp [sameB, hv3]
      have hb : (v3 == u3) = false := by simpa using hv3
      have hb' : (v3 != u3) = true := by simpa using hv3
      clear hlen
      go_enter Tryz.func10, Tryz.ntmps10
      go_wp2
      go_ret
      exact ⟨by rw [HE.out]; rfl, ((Bl.refl W).alloc _).alloc _⟩
    subst hv3
    by_cases ht : t = t2
    case neg =>
      have HE : Hid (sameB (.mk k (v1, v2, v3) t nm o args) (.mk k (v1, v2, v3) t2 nm2 o2 args2) = false) := by show _ = _; simp [sameB, ht]
      have hb : (t == t2) = false := by simpa using ht
      have hb' : (t != t2) = true := by simpa using ht
      clear hlen
      go_enter Tryz.func10, Tryz.ntmps10
      go_wp2
      go_ret
      exact ⟨by rw [HE.out]; rfl, ((Bl.refl W).alloc _).alloc _⟩
    subst ht
    by_cases hnm : nm = nm2
    case neg =>
      have HE : Hid (sameB (.mk k (v1, v2, v3) t nm o args) (.mk k (v1, v2, v3) t nm2 o2 args2) = false) := by show _ = _; simp [sameB, hnm]
      have hb : (nm == nm2) = false := by simpa using hnm
      have hb' : (nm != nm2) = true := by simpa using hnm
      clear hlen
      go_enter Tryz.func10, Tryz.ntmps10
      go_wp2
      go_ret
      exact ⟨by rw [HE.out]; rfl, ((Bl.refl W).alloc _).alloc _⟩
    subst hnm
    by_cases ho : o = o2
    case neg =>
      have HE : Hid (sameB (.mk k (v1, v2, v3) t nm o args) (.mk k (v1, v2, v3) t nm o2 args2) = false) := by show _ = _; simp [sameB, ho]
      have hb : (o == o2) = false := by simpa using ho
      have hb' : (o != o2) = true := by simpa using ho
      clear hlen
      go_enter Tryz.func10, Tryz.ntmps10
      go_wp2
      go_ret
      exact ⟨by rw [HE.out]; rfl, ((Bl.refl W).alloc _).alloc _⟩
    subst ho
    by_cases hl : args.length = args2.length
    case neg =>
      have HE : Hid (sameB (.mk k (v1, v2, v3) t nm o args) (.mk k (v1, v2, v3) t nm o args2) = false) := by
        show _ = _
        cases hs : sameB (.mk k (v1, v2, v3) t nm o args) (.mk k (v1, v2, v3) t nm o args2)
        · rfl
        · simp only [sameB, Bool.and_eq_true] at hs
          exact absurd (sames_len hs.2) hl
      have hl' : ¬ (args.length : Int) = (args2.length : Int) := by omega
      have hb : ((args.length : Int) == (args2.length : Int)) = false := by simpa using hl'
      have hb' : ((args.length : Int) != (args2.length : Int)) = true := by simpa using hl'
      clear hlen
      go_enter Tryz.func10, Tryz.ntmps10
      go_wp2
      go_ret
      exact ⟨by rw [HE.out]; rfl, ((Bl.refl W).alloc _).alloc _⟩
    have HLE := Lib.hid hl
    have HS : Hid (sameB (.mk k (v1, v2, v3) t nm o args) (.mk k (v1, v2, v3) t nm o args2) = samesB args args2) := by show _ = _; simp [sameB]
    rw [← hl]
    clear hl
    go_enter Tryz.func10, Tryz.ntmps10
    go_wp2_with fail
    go_loopw [5] (fun i wr => ∃ j : Nat, j ≤ args.length ∧ i = .int .i64 (j : Int) ∧ Hid (samesB args args2 = samesB (args.drop j) (args2.drop j)) ∧ Bl W wr ∧
      Hid (wr.heap[W.heap.size]? = some (.cells #[.int .i64 k, .int .i64 v1, .int .i64 v2, S v3, S t, S nm, .int .i64 o, .slice a args.length cap] 30 (0, 0))) ∧
      Hid (wr.heap[W.heap.size + 1]? = some (.cells #[.int .i64 k, .int .i64 v1, .int .i64 v2, S v3, S t, S nm, .int .i64 o, .slice a2 args.length cap2] 30 (0, 0)))) (fun i _ => args.length - (intOf i).toNat)
    case atStart => exact ⟨0, Nat.zero_le _, rfl, by simp [Hid], ((Bl.refl W).alloc _).alloc _, (heap_old _ _ (by simp)).trans (heap_new _ _), heap_new' _ _ (by simp)⟩
    case round =>
      obtain ⟨j, hj, rfl, HD, hB, HX, HX2⟩ := hrel
      obtain ⟨⟨-, -, -, -, -, -, -, c7⟩, -⟩ := eight HX.out
      obtain ⟨⟨-, -, -, -, -, -, -, d7⟩, -⟩ := eight HX2.out
      by_cases hlt : j < args.length
      · obtain ⟨b, off, s, rfl, h8, hr⟩ := HC.out j hlt
        obtain ⟨b2, off2, s2, rfl, h82, hr2⟩ := HC2.out j (HLE.out ▸ hlt)
        have HB := Lib.hid hB
        have HY := Lib.hid (HP.out _ (List.getElem_mem hlt))
        have HDj := Lib.hid (sames_drop hlt (HLE.out ▸ hlt))
        have HR := Lib.hid (hr.bl hB)
        have HR2 := Lib.hid (hr2.bl hB)
        obtain ⟨e0, e1, e2, e3, e4, e5, e6, e7⟩ := h8.bl hB
        obtain ⟨f0, f1, f2, f3, f4, f5, f6, f7⟩ := h82.bl hB
        clear h8 hr hB h82 hr2
        generalize hy : args[j] = y at *
        clear hy
        generalize hz : args2[j]'(HLE.out ▸ hlt) = z at *
        clear hz
        obtain ⟨k', ⟨v1', v2', v3'⟩, t', nm', o', args'⟩ := y
        obtain ⟨k3, ⟨w1', w2', w3'⟩, t3, nm3, o3, args3⟩ := z
        simp only [Ex.k, Ex.v, Ex.t, Ex.n, Ex.o] at e0 e1 e2 e3 e4 e5 e6 f0 f1 f2 f3 f4 f5 f6
        have hRE : ReadsE wr (.mk k' (v1', v2', v3') t' nm' o' args') (EV k' (v1', v2', v3') t' nm' o' s) := ⟨s, rfl, HR.out⟩
        have hRE2 : ReadsE wr (.mk k3 (w1', w2', w3') t3 nm3 o3 args3) (EV k3 (w1', w2', w3') t3 nm3 o3 s2) := ⟨s2, rfl, HR2.out⟩
        have HRE := Lib.hid (And.intro hRE hRE2)
        clear hRE hRE2
        go_wp2_with fail
        go_still_tail 10, (by kernel_rfl)
        have hbd : Bl wr wr.drew := (Bl.refl wr).drew
        go_wp2_with fail
        (with_reducible refine (IH.out _ _ HY.out (by omega) _ _ _ (HRE.out.1.bl hbd) (HRE.out.2.bl hbd)).mono ?_)
        rintro e w1 ⟨rfl, hb1⟩
        have hb2 := hbd.call hb1
        have HB1 := Lib.hid (HB.out.call hb2)
        have HX1 := Lib.hid ((hb2.block _ (Array.getElem?_eq_some_iff.1 HX.out).1).trans HX.out)
        have HX3 := Lib.hid ((hb2.block _ (Array.getElem?_eq_some_iff.1 HX2.out).1).trans HX2.out)
        clear hb1 hb2 hbd e0 e1 e2 e3 e4 e5 e6 e7 c7 d7 f0 f1 f2 f3 f4 f5 f6 f7
        have hj1 : (j : Int) < (args.length : Int) := by omega
        cases hs : sameB (.mk k' (v1', v2', v3') t' nm' o' args') (.mk k3 (w1', w2', w3') t3 nm3 o3 args3)
        · have HF := Lib.hid hs
          clear hs
          go_wp2
          go_ret
          exact ⟨by rw [HS.out, HD.out, HDj.out, HF.out]; rfl, HB1.out⟩
        · have HF := Lib.hid hs
          clear hs
          go_wp2
          go_roundw
          case rel => exact ⟨j + 1, by omega, by go_num, by show _ = _; rw [HD.out, HDj.out, HF.out]; rfl, HB1.out, HX1.out, HX3.out⟩
          case measure => simp [intOf]; omega
      · obtain rfl : j = args.length := by omega
        have HE : Hid (sameB (.mk k (v1, v2, v3) t nm o args) (.mk k (v1, v2, v3) t nm o args2) = true) := by
          show _ = _
          rw [HS.out, HD.out, List.drop_length, HLE.out, List.drop_length]; rfl
        go_wp2
        go_ret
        exact ⟨by rw [HE.out]; rfl, hB⟩
--END2

end Go.Proofs.YtepkfkfedmbmnaaGreatDoor
