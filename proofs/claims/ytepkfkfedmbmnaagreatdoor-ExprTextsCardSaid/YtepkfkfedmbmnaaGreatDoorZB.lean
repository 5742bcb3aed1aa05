/- The program's Same. -/
import Derived.Test.YtepkfkfedmbmnaaGreatDoorX4
namespace Go.Proofs.YtepkfkfedmbmnaaGreatDoor
open Go.RowKit
set_option maxRecDepth 100000

theorem sames_ne {l m : List Ex} (h : l.length ≠ m.length) : samesB l m = false := by
  cases hs : samesB l m
  · rfl
  · exact absurd (sames_len hs) h
--BEGIN1
set_option maxHeartbeats 4000000 in
theorem eEqualE_any {W : World} {a a2 : Option Addr} {cap cap2 : Nat} {l m : List Ex} (hlen : l.length ≤ 1000000) (hR : ReadsL W (.slice a l.length cap) l) (hR2 : ReadsL W (.slice a2 m.length cap2) m)
    (hf : ∀ y ∈ l, ∀ z (W' : World) (v u : Value), Bl W W' → ReadsE W' y v → ReadsE W' z u → Calls Tryz.prog 22 #[v, u] W' fun e w' => e = .returned (.bool (sameB y z)) ∧ Bl W' w') :
    Calls Tryz.prog 43 #[.slice a l.length cap, .slice a2 m.length cap2, .func (.func 22) #[] #[]] W fun e w' => e = .returned (.bool (samesB l m)) ∧ Bl W w' := by
  have hen : ∀ (args : Array Value) (w : World), (callFunc 22 args).run Tryz.prog w = .ok (.enter 22 args) w := fun args w => by simp [go_sem]
  by_cases hl : l.length = m.length
  case neg =>
    rw [sames_ne hl]
    have hl' : ¬ (l.length : Int) = (m.length : Int) := by omega
    have hb : ((l.length : Int) == (m.length : Int)) = false := by simpa using hl'
    have hb' : ((l.length : Int) != (m.length : Int)) = true := by simpa using hl'
    clear hl hl' hR hR2 hf hlen
    go_enter Tryz.func43, Tryz.ntmps43
    go_wp2
    go_ret
    exact ⟨rfl, Bl.refl W⟩
  obtain ⟨a', cap', e, hc⟩ := hR.shape
  obtain ⟨rfl, rfl⟩ : a = a' ∧ cap = cap' := by simpa using e
  obtain ⟨a3, cap3, e3, hc2⟩ := hR2.shape
  obtain ⟨rfl, rfl⟩ : a2 = a3 ∧ cap2 = cap3 := by simpa using e3
  have HC := Lib.hid hc
  have HC2 := Lib.hid hc2
  have HF := Lib.hid hf
  have HLE := Lib.hid hl
  rw [← hl]
  obtain ⟨R, HRR⟩ : ∃ R, Hid (samesB l m = R) := ⟨_, rfl⟩
  rw [HRR.out]
  clear hR hR2 hc hc2 hf e e3 hl
  go_enter Tryz.func43, Tryz.ntmps43
  go_wp2_with fail
  go_loopw [17] (fun i wr => ∃ j : Nat, j ≤ l.length ∧ i = .int .i64 (j : Int) ∧ Hid (R = samesB (l.drop j) (m.drop j)) ∧ Hid (Bl W wr)) (fun i _ => l.length - (intOf i).toNat)
  case atStart => exact ⟨0, Nat.zero_le _, rfl, HRR.out.symm, Bl.refl W⟩
  case round =>
    obtain ⟨j, hj, rfl, HD, HB⟩ := hrel
    by_cases hlt : j < l.length
    · have hlt2 : j < m.length := by have := HLE.out; omega
      obtain ⟨b, off, s, rfl, h8, hr⟩ := HC.out j hlt
      obtain ⟨b2, off2, s2, rfl, h82, hr2⟩ := HC2.out j hlt2
      have HDj := Lib.hid (sames_drop hlt hlt2)
      have HM := Lib.hid (List.getElem_mem hlt)
      obtain ⟨asl, cs, rfl, -⟩ := hr.shape
      obtain ⟨asl2, cs2, rfl, -⟩ := hr2.shape
      have HR := Lib.hid (hr.bl HB.out)
      have HR2 := Lib.hid (hr2.bl HB.out)
      have h8' := h8.bl HB.out
      obtain ⟨e0, e1, e2, e3, e4, e5, e6, e7⟩ := h8'
      have h82' := h82.bl HB.out
      obtain ⟨i0, i1, i2, i3, i4, i5, i6, i7⟩ := h82'
      have hbl2 : b2 < wr.heap.size := by have := World.block_lt_of_cell? _ _ i0; simpa using this
      have hlt' : (j : Int) < (l.length : Int) := by omega
      clear h8 hr h82 hr2
      generalize l[j] = y at *
      generalize m[j] = z at *
      obtain ⟨k', ⟨v1', v2', v3'⟩, t', nm', o', args'⟩ := y
      obtain ⟨k3, ⟨u1, u2, u3⟩, t3, nm3, o3, args3⟩ := z
      simp only [Ex.k, Ex.v, Ex.t, Ex.n, Ex.o, Ex.args] at e0 e1 e2 e3 e4 e5 e6 e7 i0 i1 i2 i3 i4 i5 i6 i7 HR HR2
      have HW := Lib.hid (((Bl.refl wr).alloc (.cells #[.int .i64 k', .int .i64 v1', .int .i64 v2', S v3', S t', S nm', .int .i64 o', .slice asl args'.length cs] 30)).alloc (.cells #[.int .i64 k3, .int .i64 u1, .int .i64 u2, S u3, S t3, S nm3, .int .i64 o3, .slice asl2 args3.length cs2] 30))
      have HRE := Lib.hid (show ReadsE wr (.mk k' (v1', v2', v3') t' nm' o' args') (EV k' (v1', v2', v3') t' nm' o' (.slice asl args'.length cs)) from ⟨_, rfl, HR.out⟩)
      have HRE2 := Lib.hid (show ReadsE wr (.mk k3 (u1, u2, u3) t3 nm3 o3 args3) (EV k3 (u1, u2, u3) t3 nm3 o3 (.slice asl2 args3.length cs2)) from ⟨_, rfl, HR2.out⟩)
      go_wp2_with fail
      refine (HF.out _ HM.out (.mk k3 (u1, u2, u3) t3 nm3 o3 args3) _ _ _ (HB.out.call HW.out) (HRE.out.bl HW.out) (HRE2.out.bl HW.out)).mono ?_
      rintro e w1 ⟨rfl, hb1⟩
      have HB1 := Lib.hid ((HB.out.call HW.out).call hb1)
      clear hb1 e0 e1 e2 e3 e4 e5 e6 e7 i0 i1 i2 i3 i4 i5 i6 i7
      cases hs : sameB (.mk k' (v1', v2', v3') t' nm' o' args') (.mk k3 (u1, u2, u3) t3 nm3 o3 args3)
      · have HN := Lib.hid (show R = false from by rw [HD.out, HDj.out, hs, Bool.false_and])
        clear hs
        go_wp2
        go_ret
        exact ⟨by rw [HN.out]; rfl, HB1.out⟩
      · have HN := Lib.hid (show R = samesB (l.drop (j + 1)) (m.drop (j + 1)) from by rw [HD.out, HDj.out, hs, Bool.true_and])
        clear hs
        go_wp2
        go_roundw
        case rel => exact ⟨j + 1, by omega, by go_num, HN.out, HB1.out⟩
        case measure => simp [intOf]; omega
    · obtain rfl : j = l.length := by omega
      have HN := Lib.hid (show R = true from by rw [HD.out, List.drop_length, HLE.out, List.drop_length]; rfl)
      go_wp2
      go_ret
      exact ⟨by rw [HN.out]; rfl, HB.out⟩
--END1

--BEGIN2
set_option maxHeartbeats 8000000 in
theorem eSame_any : ∀ (n : Nat) (x y : Ex), partsE x ≤ n → n ≤ 1000000 → ∀ (W : World) (v u : Value), ReadsE W x v → ReadsE W y u → Calls Tryz.prog 22 #[v, u] W fun e w' => e = .returned (.bool (sameB x y)) ∧ Bl W w'
  | 0, x, _, h, _, _, _, _, _, _ => by have := parts_pos x; omega
  | n + 1, x, y, hx, hn, W, v, u, hv, hu => by
    obtain ⟨sv, rfl, hL⟩ := hv
    obtain ⟨su, rfl, hL2⟩ := hu
    have IH : Hid (∀ y ∈ x.args, ∀ z (W' : World) (v u : Value), ReadsE W' y v → ReadsE W' z u → Calls Tryz.prog 22 #[v, u] W' fun e w' => e = .returned (.bool (sameB y z)) ∧ Bl W' w') := fun y hy z W' v u hv hu => eSame_any n y z (by have := parts_arg hy; omega) (by omega) W' v u hv hu
    have hlen : x.args.length ≤ 1000000 := by have := parts_len x; omega
    obtain ⟨k, ⟨v1, v2, v3⟩, t, nm, o, args⟩ := x
    obtain ⟨k2, ⟨u1, u2, u3⟩, t2, nm2, o2, args2⟩ := y
    replace hlen : args.length ≤ 1000000 := hlen
    replace hL : ReadsL W sv args := hL
    replace hL2 : ReadsL W su args2 := hL2
    obtain ⟨a, cap, rfl, -⟩ := hL.shape
    obtain ⟨a2, cap2, rfl, -⟩ := hL2.shape
    have HQ : Hid (∀ w, Bl W w → Calls Tryz.prog 43 #[.slice a args.length cap, .slice a2 args2.length cap2, .func (.func 22) #[] #[]] w fun e w' => e = .returned (.bool (samesB args args2)) ∧ Bl w w') := fun w hb => eEqualE_any hlen (hL.bl hb) (hL2.bl hb) fun y hy z W' v u _ hv hu => IH.out y hy z W' v u hv hu
    show Calls Tryz.prog 22 #[EV k (v1, v2, v3) t nm o (.slice a args.length cap), EV k2 (u1, u2, u3) t2 nm2 o2 (.slice a2 args2.length cap2)] W fun e w' => e = .returned (.bool (sameB (.mk k (v1, v2, v3) t nm o args) (.mk k2 (u1, u2, u3) t2 nm2 o2 args2))) ∧ Bl W w'
    clear hL hL2 hx IH hlen
    by_cases hk : k = k2
    case neg =>
      have HE : Hid (sameB (.mk k (v1, v2, v3) t nm o args) (.mk k2 (u1, u2, u3) t2 nm2 o2 args2) = false) := by show _ = _; simp [sameB, hk]
      rw [HE.out]
      have hb : (k == k2) = false := by simpa using hk
      have hb' : (k != k2) = true := by simpa using hk
      clear HQ
      go_enter Tryz.func22, Tryz.ntmps22
      go_wp2
      go_ret
      exact ⟨rfl, ((Bl.refl W).alloc _).alloc _⟩
    subst hk
    by_cases hv1 : v1 = u1
    case neg =>
      have HE : Hid (sameB (.mk k (v1, v2, v3) t nm o args) (.mk k (u1, u2, u3) t2 nm2 o2 args2) = false) := by show _ = _; simp [sameB, hv1]
      rw [HE.out]
      have hb : (v1 == u1) = false := by simpa using hv1
      have hb' : (v1 != u1) = true := by simpa using hv1
      clear HQ
      go_enter Tryz.func22, Tryz.ntmps22
      go_wp2
      go_ret
      exact ⟨rfl, ((Bl.refl W).alloc _).alloc _⟩
    subst hv1
    by_cases hv2 : v2 = u2
    case neg =>
      have HE : Hid (sameB (.mk k (v1, v2, v3) t nm o args) (.mk k (v1, u2, u3) t2 nm2 o2 args2) = false) := by show _ = _; simp [sameB, hv2]
      rw [HE.out]
      have hb : (v2 == u2) = false := by simpa using hv2
      have hb' : (v2 != u2) = true := by simpa using hv2
      clear HQ
      go_enter Tryz.func22, Tryz.ntmps22
      go_wp2
      go_ret
      exact ⟨rfl, ((Bl.refl W).alloc _).alloc _⟩
    subst hv2
    by_cases hv3 : v3 = u3
    case neg =>
      have HE : Hid (sameB (.mk k (v1, v2, v3) t nm o args) (.mk k (v1, v2, u3) t2 nm2 o2 args2) = false) := by show _ = _; simp [sameB, hv3]
      rw [HE.out]
      have hb : (v3 == u3) = false := by simpa using hv3
      have hb' : (v3 != u3) = true := by simpa using hv3
      clear HQ
      go_enter Tryz.func22, Tryz.ntmps22
      go_wp2
      go_ret
      exact ⟨rfl, ((Bl.refl W).alloc _).alloc _⟩
    subst hv3
    by_cases ht : t = t2
    case neg =>
      have HE : Hid (sameB (.mk k (v1, v2, v3) t nm o args) (.mk k (v1, v2, v3) t2 nm2 o2 args2) = false) := by show _ = _; simp [sameB, ht]
      rw [HE.out]
      have hb : (t == t2) = false := by simpa using ht
      have hb' : (t != t2) = true := by simpa using ht
      clear HQ
      go_enter Tryz.func22, Tryz.ntmps22
      go_wp2
      go_ret
      exact ⟨rfl, ((Bl.refl W).alloc _).alloc _⟩
    subst ht
    by_cases hnm : nm = nm2
    case neg =>
      have HE : Hid (sameB (.mk k (v1, v2, v3) t nm o args) (.mk k (v1, v2, v3) t nm2 o2 args2) = false) := by show _ = _; simp [sameB, hnm]
      rw [HE.out]
      have hb : (nm == nm2) = false := by simpa using hnm
      have hb' : (nm != nm2) = true := by simpa using hnm
      clear HQ
      go_enter Tryz.func22, Tryz.ntmps22
      go_wp2
      go_ret
      exact ⟨rfl, ((Bl.refl W).alloc _).alloc _⟩
    subst hnm
    by_cases ho : o = o2
    case neg =>
      have HE : Hid (sameB (.mk k (v1, v2, v3) t nm o args) (.mk k (v1, v2, v3) t nm o2 args2) = false) := by show _ = _; simp [sameB, ho]
      rw [HE.out]
      have hb : (o == o2) = false := by simpa using ho
      have hb' : (o != o2) = true := by simpa using ho
      clear HQ
      go_enter Tryz.func22, Tryz.ntmps22
      go_wp2
      go_ret
      exact ⟨rfl, ((Bl.refl W).alloc _).alloc _⟩
    subst ho
    have HS : Hid (sameB (.mk k (v1, v2, v3) t nm o args) (.mk k (v1, v2, v3) t nm o args2) = samesB args args2) := by show _ = _; simp [sameB]
    rw [HS.out]
    generalize samesB args args2 = bs at *
    generalize args.length = m at *
    generalize args2.length = m2 at *
    go_enter Tryz.func22, Tryz.ntmps22
    go_wp2_with fail
    refine (HQ.out _ (((Bl.refl W).alloc _).alloc _)).mono ?_
    rintro e w1 ⟨rfl, hb1⟩
    go_wp2
    go_ret
    exact ⟨rfl, (((Bl.refl W).alloc _).alloc _).call hb1⟩
--END2

end Go.Proofs.YtepkfkfedmbmnaaGreatDoor
