/- The reference of layer 16: Right. -/
import Derived.Test.YtepkfkfedmbmnaaGreatDoorX4
import Derived.Test.YtepkfkfedmbmnaaGreatDoorOX
import Derived.Test.YtepkfkfedmbmnaaGreatDoorMG
namespace Go.Proofs.YtepkfkfedmbmnaaGreatDoor
open Go.RowKit
set_option maxRecDepth 100000

theorem two_0 (W : World) (o1 o2 : Obj) : ((W.alloc o1).alloc o2).heap[W.heap.size]? = some o1 := (heap_old _ _ (by simp)).trans (heap_new _ _)
theorem two_1 (W : World) (o1 o2 : Obj) : ((W.alloc o1).alloc o2).heap[W.heap.size + 1]? = some o2 := heap_new' _ _ (by simp)
/-- What a walk over arguments leans on. -/
structure ArgsAt (f : FuncId) (g : Ex → Bool) (W : World) (a : Option Addr) (args : List Ex) : Prop where
  few : args.length ≤ 1000000
  at8 : ∀ (j : Nat) (h : j < args.length), ∃ b off s, a = some ⟨b, off, none⟩ ∧ At8 W b (off + j * 8) args[j] s ∧ ReadsL W s args[j].args
  ih : ∀ y ∈ args, ∀ (W' : World) (v : Value), ReadsE W' y v → Calls Tryz.prog f #[v] W' fun e w' => e = .returned (.bool (g y)) ∧ Bl W' w'
theorem alls_drop {l : List Ex} {j : Nat} (hj : j < l.length) : (l.drop j).all checkB = (checkB l[j] && (l.drop (j + 1)).all checkB) := by
  rw [List.drop_eq_getElem_cons hj]
  rfl
--BEGIN1
set_option maxHeartbeats 8000000 in
theorem xright_1 {v1 v2 o : Int} {v3 t n : List UInt8} {a : Option Addr} {cap : Nat} {c : Int} {R : Bool} {args : List Ex} {W : World} (HCH : Hid (∀ w, Calls Tryz.prog 45 #[V v1 v2 v3] w fun e w' => e = .returned (.int .i64 c) ∧ Bl w w'))
    (HA : Hid (ArgsAt 25 checkB W a args)) (HN : Hid (¬ (c = 0 ∧ ¬ (v1 = 2 ∧ v2 < 0) ∧ args.length = 0 ∧ t = [] ∧ n = [] ∧ o = 0) → R = false)) (HY : Hid ((c = 0 ∧ ¬ (v1 = 2 ∧ v2 < 0) ∧ args.length = 0 ∧ t = [] ∧ n = [] ∧ o = 0) → R = (args.drop 0).all checkB)) :
    Calls Tryz.prog 25 #[EV 1 (v1, v2, v3) t n o (.slice a args.length cap)] W fun e w' => e = .returned (.bool R) ∧ Bl W w' := by
  go_enter Tryz.func25, Tryz.ntmps25
  go_wp2_with fail
  refine (HCH.out _).mono ?_
  rintro e w1 ⟨rfl, hb1⟩
  have HX1 := Lib.hid ((hb1.block W.heap.size (by simp; omega)).trans (two_0 W _ _))
  have HU1 := Lib.hid ((hb1.block (W.heap.size + 1) (by simp)).trans (two_1 W _ _))
  have HB1 := Lib.hid ((((Bl.refl W).alloc _).alloc _).call hb1)
  obtain ⟨⟨e0, e1, e2, e3, e4, e5, e6, e7⟩, -⟩ := eight HX1.out
  obtain ⟨⟨i0, i1, i2, i3, i4, i5, i6, i7⟩, -⟩ := eight HU1.out
  clear hb1
  by_cases hc : c = 0
  case neg =>
    have HE := Lib.hid (HN.out fun h => hc h.1)
    have hb : (c == 0) = false := by simpa using hc
    have hb' : (c != 0) = true := by simpa using hc
    clear hc
    go_wp2
    all_goals
      go_ret
      exact ⟨by rw [HE.out] <;> rfl, HB1.out⟩
  subst hc
  by_cases h1 : v1 = 2 ∧ v2 < 0
  case pos =>
    have HE := Lib.hid (HN.out fun h => h.2.1 h1)
    obtain ⟨rfl, h2⟩ := h1
    go_wp2
    all_goals
      go_ret
      exact ⟨by rw [HE.out] <;> rfl, HB1.out⟩
  have h2 : (v1 == 2) = false ∨ ((v1 == 2) = true ∧ ¬ v2 < 0) := by
    by_cases e : v1 = 2
    · exact .inr ⟨by simpa using e, fun h => h1 ⟨e, h⟩⟩
    · exact .inl (by simpa using e)
  have H1 := Lib.hid h1
  clear h1
  by_cases hm : (args.length : Int) = 0
  case neg =>
    have HE := Lib.hid (HN.out fun h => hm (by have := h.2.2.1; omega))
    have hb : ((args.length : Int) == 0) = false := by simpa using hm
    have hb' : ((args.length : Int) != 0) = true := by simpa using hm
    clear hm
    rcases h2 with h2 | ⟨h2, h3⟩
    all_goals
      go_wp2
      all_goals
        go_ret
        exact ⟨by rw [HE.out] <;> rfl, HB1.out⟩
  have HM := Lib.hid (show args.length = 0 by omega)
  have hm1 : ((args.length : Int) == 0) = true := by simpa using hm
  have hm2 : ((args.length : Int) != 0) = false := by simpa using hm
  clear hm
  by_cases ht : t = []
  case neg =>
    have HE := Lib.hid (HN.out fun h => ht h.2.2.2.1)
    have hb : (t == []) = false := by simpa using ht
    have hb' : (t != []) = true := by simpa using ht
    clear ht
    rcases h2 with h2 | ⟨h2, h3⟩
    all_goals
      go_wp2
      all_goals
        go_ret
        exact ⟨by rw [HE.out] <;> rfl, HB1.out⟩
  subst ht
  by_cases hn : n = []
  case neg =>
    have HE := Lib.hid (HN.out fun h => hn h.2.2.2.2.1)
    have hb : (n == []) = false := by simpa using hn
    have hb' : (n != []) = true := by simpa using hn
    clear hn
    rcases h2 with h2 | ⟨h2, h3⟩
    all_goals
      go_wp2
      all_goals
        go_ret
        exact ⟨by rw [HE.out] <;> rfl, HB1.out⟩
  subst hn
  by_cases ho : o = 0
  case neg =>
    have HE := Lib.hid (HN.out fun h => ho h.2.2.2.2.2)
    have hb : (o == 0) = false := by simpa using ho
    have hb' : (o != 0) = true := by simpa using ho
    clear ho
    rcases h2 with h2 | ⟨h2, h3⟩
    all_goals
      go_wp2
      all_goals
        go_ret
        exact ⟨by rw [HE.out] <;> rfl, HB1.out⟩
  subst ho
  have HE := Lib.hid (HY.out ⟨rfl, H1.out, HM.out, rfl, rfl, rfl⟩)
  clear HN HY H1
  rcases h2 with h2 | ⟨h2, h3⟩
  all_goals
    go_wp2_with fail
    clear e0 e1 e2 e3 e4 e5 e6 e7 i0 i1 i2 i3 i4 i5 i6 i7 hm1 hm2 h2
    go_loopw [6] (fun i wr => ∃ j : Nat, j ≤ args.length ∧ i = .int .i64 (j : Int) ∧ Hid (R = (args.drop j).all checkB) ∧ Bl W wr ∧ Hid (wr.heap[W.heap.size]? = some (.cells #[.int .i64 1, .int .i64 v1, .int .i64 v2, S v3, S [], S [], .int .i64 0, .slice a args.length cap] 30 (0, 0)))) (fun i _ => args.length - (intOf i).toNat)
    case atStart => exact ⟨0, Nat.zero_le _, rfl, HE.out, HB1.out, HX1.out⟩
    case round =>
      obtain ⟨j, hj, rfl, HD, hB, HX⟩ := hrel
      obtain ⟨⟨-, -, -, -, -, -, -, c7⟩, -⟩ := eight HX.out
      have hfew := HA.out.few
      by_cases hlt : j < args.length
      · have hltI : (j : Int) < (args.length : Int) := by omega
        obtain ⟨b, off, s, rfl, h8, hr⟩ := HA.out.at8 j hlt
        have HB := Lib.hid hB
        have HY := Lib.hid (HA.out.ih _ (List.getElem_mem hlt))
        have HDj := Lib.hid (alls_drop hlt)
        have HR := Lib.hid (hr.bl hB)
        obtain ⟨e0, e1, e2, e3, e4, e5, e6, e7⟩ := h8.bl hB
        clear h8 hr hB
        generalize hy : args[j] = y at *
        clear hy
        obtain ⟨k', ⟨v1', v2', v3'⟩, t', nm', o', args'⟩ := y
        simp only [Ex.k, Ex.v, Ex.t, Ex.n, Ex.o] at e0 e1 e2 e3 e4 e5 e6
        go_wp2_with fail
        have hRE : ReadsE wr (.mk k' (v1', v2', v3') t' nm' o' args') (EV k' (v1', v2', v3') t' nm' o' s) := ⟨s, rfl, HR.out⟩
        (with_reducible refine (HY.out _ _ hRE).mono ?_)
        rintro e w5 ⟨rfl, hb5⟩
        have HB5 := Lib.hid (HB.out.call hb5)
        have HX5 := Lib.hid ((hb5.block _ (Array.getElem?_eq_some_iff.1 HX.out).1).trans HX.out)
        clear hb5 e0 e1 e2 e3 e4 e5 e6 e7 c7 hRE
        cases hs : checkB (.mk k' (v1', v2', v3') t' nm' o' args')
        · have HF := Lib.hid (show R = false from by rw [HD.out, HDj.out, hs]; rfl)
          clear hs
          go_wp2
          go_ret
          exact ⟨by rw [HF.out] <;> rfl, HB5.out⟩
        · have HF := Lib.hid (show R = (args.drop (j + 1)).all checkB from by rw [HD.out, HDj.out, hs]; rfl)
          clear hs
          go_wp2
          go_roundw
          case rel => exact ⟨j + 1, by omega, by go_num, HF.out, HB5.out, HX5.out⟩
          case measure => simp [intOf]; omega
      · obtain rfl : j = args.length := by omega
        have HF : Hid (R = true) := by show R = true; rw [HD.out, List.drop_length]; rfl
        have HB := Lib.hid hB
        clear hB
        go_wp2
        go_ret
        exact ⟨by rw [HF.out] <;> rfl, HB.out⟩
--END1
--BEGIN2
set_option maxHeartbeats 8000000 in
theorem xright_3 {v1 v2 o : Int} {v3 t n : List UInt8} {a : Option Addr} {cap : Nat} {R : Bool} {args : List Ex} {W : World} {on : List UInt8} {om : Nat} {op oq : Int} (HI : Hid (∀ w, Calls Tryz.prog 47 #[.int .i64 o] w fun e w' => e = .returned (.agg #[S on, .int .i64 (om : Int), .int .i64 op, .int .i64 oq]) ∧ Bl w w'))
    (HA : Hid (ArgsAt 25 checkB W a args)) (HN : Hid (¬ (on ≠ [] ∧ args.length = om ∧ v1 = 0 ∧ v2 = 0 ∧ v3 = [] ∧ t = [] ∧ n = []) → R = false)) (HY : Hid ((on ≠ [] ∧ args.length = om ∧ v1 = 0 ∧ v2 = 0 ∧ v3 = [] ∧ t = [] ∧ n = []) → R = (args.drop 0).all checkB)) :
    Calls Tryz.prog 25 #[EV 3 (v1, v2, v3) t n o (.slice a args.length cap)] W fun e w' => e = .returned (.bool R) ∧ Bl W w' := by
  go_enter Tryz.func25, Tryz.ntmps25
  go_wp2_with fail
  refine (HI.out _).mono ?_
  rintro e w1 ⟨rfl, hb1⟩
  have HX1 := Lib.hid ((hb1.block W.heap.size (by simp; omega)).trans (two_0 W _ _))
  have HU1 := Lib.hid ((hb1.block (W.heap.size + 1) (by simp)).trans (two_1 W _ _))
  have HB1 := Lib.hid (((((Bl.refl W).alloc _).alloc _).call hb1).alloc (.cells #[S on, .int .i64 (om : Int), .int .i64 op, .int .i64 oq] 88))
  have hz1 := (Array.getElem?_eq_some_iff.1 HX1.out).1
  have hz2 := (Array.getElem?_eq_some_iff.1 HU1.out).1
  have HX2 := Lib.hid ((heap_old w1 (.cells #[S on, .int .i64 (om : Int), .int .i64 op, .int .i64 oq] 88) hz1).trans HX1.out)
  obtain ⟨⟨e0, e1, e2, e3, e4, e5, e6, e7⟩, -⟩ := eight HX1.out
  obtain ⟨⟨i0, i1, i2, i3, i4, i5, i6, i7⟩, -⟩ := eight HU1.out
  clear hb1
  by_cases hon : on = []
  case pos =>
    have HE := Lib.hid (HN.out fun h => h.1 hon)
    subst hon
    go_wp2
    all_goals
      go_ret
      exact ⟨by rw [HE.out] <;> rfl, HB1.out⟩
  have HON := Lib.hid hon
  have hb : (on == []) = false := by simpa using hon
  have hb' : (on != []) = true := by simpa using hon
  clear hon
  by_cases hm : (args.length : Int) = (om : Int)
  case neg =>
    have HE := Lib.hid (HN.out fun h => hm (by have := h.2.1; omega))
    have hm' : ¬ args.length = om := by omega
    have hc : (args.length == om) = false := by simpa using hm'
    have hc' : (args.length != om) = true := by simpa using hm'
    have hd : decide (args.length = om) = false := by simpa using hm'
    have hd' : decide ((args.length : Int) = (om : Int)) = false := by simpa using hm
    clear hm'
    have hb : ((args.length : Int) == (om : Int)) = false := by simpa using hm
    have hb' : ((args.length : Int) != (om : Int)) = true := by simpa using hm
    clear hm
    go_wp2
    all_goals
      go_ret
      exact ⟨by rw [HE.out] <;> rfl, HB1.out⟩
  obtain rfl : om = args.length := by omega
  clear hm
  by_cases hv1 : v1 = 0
  case neg =>
    have HE := Lib.hid (HN.out fun h => hv1 h.2.2.1)
    have hb : (v1 == 0) = false := by simpa using hv1
    have hb' : (v1 != 0) = true := by simpa using hv1
    clear hv1
    go_wp2
    all_goals
      go_ret
      exact ⟨by rw [HE.out] <;> rfl, HB1.out⟩
  subst hv1
  by_cases hv2 : v2 = 0
  case neg =>
    have HE := Lib.hid (HN.out fun h => hv2 h.2.2.2.1)
    have hb : (v2 == 0) = false := by simpa using hv2
    have hb' : (v2 != 0) = true := by simpa using hv2
    clear hv2
    go_wp2
    all_goals
      go_ret
      exact ⟨by rw [HE.out] <;> rfl, HB1.out⟩
  subst hv2
  by_cases hv3 : v3 = []
  case neg =>
    have HE := Lib.hid (HN.out fun h => hv3 h.2.2.2.2.1)
    have hb : (v3 == []) = false := by simpa using hv3
    have hb' : (v3 != []) = true := by simpa using hv3
    clear hv3
    go_wp2
    all_goals
      go_ret
      exact ⟨by rw [HE.out] <;> rfl, HB1.out⟩
  subst hv3
  by_cases ht : t = []
  case neg =>
    have HE := Lib.hid (HN.out fun h => ht h.2.2.2.2.2.1)
    have hb : (t == []) = false := by simpa using ht
    have hb' : (t != []) = true := by simpa using ht
    clear ht
    go_wp2
    all_goals
      go_ret
      exact ⟨by rw [HE.out] <;> rfl, HB1.out⟩
  subst ht
  by_cases hn : n = []
  case neg =>
    have HE := Lib.hid (HN.out fun h => hn h.2.2.2.2.2.2)
    have hb : (n == []) = false := by simpa using hn
    have hb' : (n != []) = true := by simpa using hn
    clear hn
    go_wp2
    all_goals
      go_ret
      exact ⟨by rw [HE.out] <;> rfl, HB1.out⟩
  subst hn
  have HE := Lib.hid (HY.out ⟨HON.out, rfl, rfl, rfl, rfl, rfl, rfl⟩)
  clear HN HY
  go_wp2_with fail
  clear e0 e1 e2 e3 e4 e5 e6 e7 i0 i1 i2 i3 i4 i5 i6 i7 hb hb'
  go_loopw [6] (fun i wr => ∃ j : Nat, j ≤ args.length ∧ i = .int .i64 (j : Int) ∧ Hid (R = (args.drop j).all checkB) ∧ Bl W wr ∧ Hid (wr.heap[W.heap.size]? = some (.cells #[.int .i64 3, .int .i64 0, .int .i64 0, S [], S [], S [], .int .i64 o, .slice a args.length cap] 30 (0, 0)))) (fun i _ => args.length - (intOf i).toNat)
  case atStart => exact ⟨0, Nat.zero_le _, rfl, HE.out, HB1.out, HX2.out⟩
  case round =>
    obtain ⟨j, hj, rfl, HD, hB, HX⟩ := hrel
    obtain ⟨⟨-, -, -, -, -, -, -, c7⟩, -⟩ := eight HX.out
    have hfew := HA.out.few
    by_cases hlt : j < args.length
    · have hltI : (j : Int) < (args.length : Int) := by omega
      obtain ⟨b, off, s, rfl, h8, hr⟩ := HA.out.at8 j hlt
      have HB := Lib.hid hB
      have HY := Lib.hid (HA.out.ih _ (List.getElem_mem hlt))
      have HDj := Lib.hid (alls_drop hlt)
      have HR := Lib.hid (hr.bl hB)
      obtain ⟨e0, e1, e2, e3, e4, e5, e6, e7⟩ := h8.bl hB
      clear h8 hr hB
      generalize hy : args[j] = y at *
      clear hy
      obtain ⟨k', ⟨v1', v2', v3'⟩, t', nm', o', args'⟩ := y
      simp only [Ex.k, Ex.v, Ex.t, Ex.n, Ex.o] at e0 e1 e2 e3 e4 e5 e6
      go_wp2_with fail
      have hRE : ReadsE wr (.mk k' (v1', v2', v3') t' nm' o' args') (EV k' (v1', v2', v3') t' nm' o' s) := ⟨s, rfl, HR.out⟩
      (with_reducible refine (HY.out _ _ hRE).mono ?_)
      rintro e w5 ⟨rfl, hb5⟩
      have HB5 := Lib.hid (HB.out.call hb5)
      have HX5 := Lib.hid ((hb5.block _ (Array.getElem?_eq_some_iff.1 HX.out).1).trans HX.out)
      clear hb5 e0 e1 e2 e3 e4 e5 e6 e7 c7 hRE
      cases hs : checkB (.mk k' (v1', v2', v3') t' nm' o' args')
      · have HF := Lib.hid (show R = false from by rw [HD.out, HDj.out, hs]; rfl)
        clear hs
        go_wp2
        go_ret
        exact ⟨by rw [HF.out] <;> rfl, HB5.out⟩
      · have HF := Lib.hid (show R = (args.drop (j + 1)).all checkB from by rw [HD.out, HDj.out, hs]; rfl)
        clear hs
        go_wp2
        go_roundw
        case rel => exact ⟨j + 1, by omega, by go_num, HF.out, HB5.out, HX5.out⟩
        case measure => simp [intOf]; omega
    · obtain rfl : j = args.length := by omega
      have HF : Hid (R = true) := by show R = true; rw [HD.out, List.drop_length]; rfl
      have HB := Lib.hid hB
      clear hB
      go_wp2
      go_ret
      exact ⟨by rw [HF.out] <;> rfl, HB.out⟩
--END2
--BEGIN3
set_option maxHeartbeats 8000000 in
theorem xright_4 {v1 v2 o : Int} {v3 t n : List UInt8} {a : Option Addr} {cap : Nat} {R : Bool} {args : List Ex} {W : World}
    (HA : Hid (ArgsAt 25 checkB W a args)) (HN : Hid (¬ (args.length ≠ 0 ∧ n = [] ∧ v1 = 0 ∧ v2 = 0 ∧ v3 = [] ∧ t = [] ∧ o = 0) → R = false)) (HY : Hid ((args.length ≠ 0 ∧ n = [] ∧ v1 = 0 ∧ v2 = 0 ∧ v3 = [] ∧ t = [] ∧ o = 0) → R = (args.drop 0).all checkB)) :
    Calls Tryz.prog 25 #[EV 4 (v1, v2, v3) t n o (.slice a args.length cap)] W fun e w' => e = .returned (.bool R) ∧ Bl W w' := by
  by_cases hm : (args.length : Int) = 0
  case pos =>
    have HE := Lib.hid (HN.out fun h => h.1 (by omega))
    have hm1 : ((args.length : Int) == 0) = true := by simpa using hm
    have hm2 : ((args.length : Int) != 0) = false := by simpa using hm
    clear hm
    go_enter Tryz.func25, Tryz.ntmps25
    go_wp2
    all_goals
      go_ret
      exact ⟨by rw [HE.out] <;> rfl, ((Bl.refl W).alloc _).alloc _⟩
  have HM := Lib.hid (show args.length ≠ 0 by omega)
  have hm1 : ((args.length : Int) == 0) = false := by simpa using hm
  have hm2 : ((args.length : Int) != 0) = true := by simpa using hm
  clear hm
  by_cases hv1 : v1 = 0
  case neg =>
    have HE := Lib.hid (HN.out fun h => hv1 h.2.2.1)
    have hb : (v1 == 0) = false := by simpa using hv1
    have hb' : (v1 != 0) = true := by simpa using hv1
    clear hv1
    go_enter Tryz.func25, Tryz.ntmps25
    go_wp2
    all_goals
      go_ret
      exact ⟨by rw [HE.out] <;> rfl, ((Bl.refl W).alloc _).alloc _⟩
  subst hv1
  by_cases hv2 : v2 = 0
  case neg =>
    have HE := Lib.hid (HN.out fun h => hv2 h.2.2.2.1)
    have hb : (v2 == 0) = false := by simpa using hv2
    have hb' : (v2 != 0) = true := by simpa using hv2
    clear hv2
    go_enter Tryz.func25, Tryz.ntmps25
    go_wp2
    all_goals
      go_ret
      exact ⟨by rw [HE.out] <;> rfl, ((Bl.refl W).alloc _).alloc _⟩
  subst hv2
  by_cases hv3 : v3 = []
  case neg =>
    have HE := Lib.hid (HN.out fun h => hv3 h.2.2.2.2.1)
    have hb : (v3 == []) = false := by simpa using hv3
    have hb' : (v3 != []) = true := by simpa using hv3
    clear hv3
    go_enter Tryz.func25, Tryz.ntmps25
    go_wp2
    all_goals
      go_ret
      exact ⟨by rw [HE.out] <;> rfl, ((Bl.refl W).alloc _).alloc _⟩
  subst hv3
  by_cases ht : t = []
  case neg =>
    have HE := Lib.hid (HN.out fun h => ht h.2.2.2.2.2.1)
    have hb : (t == []) = false := by simpa using ht
    have hb' : (t != []) = true := by simpa using ht
    clear ht
    go_enter Tryz.func25, Tryz.ntmps25
    go_wp2
    all_goals
      go_ret
      exact ⟨by rw [HE.out] <;> rfl, ((Bl.refl W).alloc _).alloc _⟩
  subst ht
  by_cases ho : o = 0
  case neg =>
    have HE := Lib.hid (HN.out fun h => ho h.2.2.2.2.2.2)
    have hb : (o == 0) = false := by simpa using ho
    have hb' : (o != 0) = true := by simpa using ho
    clear ho
    go_enter Tryz.func25, Tryz.ntmps25
    go_wp2
    all_goals
      go_ret
      exact ⟨by rw [HE.out] <;> rfl, ((Bl.refl W).alloc _).alloc _⟩
  subst ho
  by_cases hn : n = []
  case neg =>
    have HE := Lib.hid (HN.out fun h => hn h.2.1)
    have hb : (n == []) = false := by simpa using hn
    have hb' : (n != []) = true := by simpa using hn
    clear hn
    go_enter Tryz.func25, Tryz.ntmps25
    go_wp2
    all_goals
      go_ret
      exact ⟨by rw [HE.out] <;> rfl, ((Bl.refl W).alloc _).alloc _⟩
  subst hn
  have HE := Lib.hid (HY.out ⟨HM.out, rfl, rfl, rfl, rfl, rfl, rfl⟩)
  clear HN HY
  go_enter Tryz.func25, Tryz.ntmps25
  go_wp2_with fail
  clear hm1 hm2
  go_loopw [6] (fun i wr => ∃ j : Nat, j ≤ args.length ∧ i = .int .i64 (j : Int) ∧ Hid (R = (args.drop j).all checkB) ∧ Bl W wr ∧ Hid (wr.heap[W.heap.size]? = some (.cells #[.int .i64 4, .int .i64 0, .int .i64 0, S [], S [], S [], .int .i64 0, .slice a args.length cap] 30 (0, 0)))) (fun i _ => args.length - (intOf i).toNat)
  case atStart => exact ⟨0, Nat.zero_le _, rfl, HE.out, (((Bl.refl W).alloc _).alloc _), (two_0 W _ _)⟩
  case round =>
    obtain ⟨j, hj, rfl, HD, hB, HX⟩ := hrel
    obtain ⟨⟨-, -, -, -, -, -, -, c7⟩, -⟩ := eight HX.out
    have hfew := HA.out.few
    by_cases hlt : j < args.length
    · have hltI : (j : Int) < (args.length : Int) := by omega
      obtain ⟨b, off, s, rfl, h8, hr⟩ := HA.out.at8 j hlt
      have HB := Lib.hid hB
      have HY := Lib.hid (HA.out.ih _ (List.getElem_mem hlt))
      have HDj := Lib.hid (alls_drop hlt)
      have HR := Lib.hid (hr.bl hB)
      obtain ⟨e0, e1, e2, e3, e4, e5, e6, e7⟩ := h8.bl hB
      clear h8 hr hB
      generalize hy : args[j] = y at *
      clear hy
      obtain ⟨k', ⟨v1', v2', v3'⟩, t', nm', o', args'⟩ := y
      simp only [Ex.k, Ex.v, Ex.t, Ex.n, Ex.o] at e0 e1 e2 e3 e4 e5 e6
      go_wp2_with fail
      have hRE : ReadsE wr (.mk k' (v1', v2', v3') t' nm' o' args') (EV k' (v1', v2', v3') t' nm' o' s) := ⟨s, rfl, HR.out⟩
      (with_reducible refine (HY.out _ _ hRE).mono ?_)
      rintro e w5 ⟨rfl, hb5⟩
      have HB5 := Lib.hid (HB.out.call hb5)
      have HX5 := Lib.hid ((hb5.block _ (Array.getElem?_eq_some_iff.1 HX.out).1).trans HX.out)
      clear hb5 e0 e1 e2 e3 e4 e5 e6 e7 c7 hRE
      cases hs : checkB (.mk k' (v1', v2', v3') t' nm' o' args')
      · have HF := Lib.hid (show R = false from by rw [HD.out, HDj.out, hs]; rfl)
        clear hs
        go_wp2
        go_ret
        exact ⟨by rw [HF.out] <;> rfl, HB5.out⟩
      · have HF := Lib.hid (show R = (args.drop (j + 1)).all checkB from by rw [HD.out, HDj.out, hs]; rfl)
        clear hs
        go_wp2
        go_roundw
        case rel => exact ⟨j + 1, by omega, by go_num, HF.out, HB5.out, HX5.out⟩
        case measure => simp [intOf]; omega
    · obtain rfl : j = args.length := by omega
      have HF : Hid (R = true) := by show R = true; rw [HD.out, List.drop_length]; rfl
      have HB := Lib.hid hB
      clear hB
      go_wp2
      go_ret
      exact ⟨by rw [HF.out] <;> rfl, HB.out⟩
--END3
--BEGIN4
set_option maxHeartbeats 8000000 in
theorem xright_5c {v1 v2 o : Int} {v3 t : List UInt8} {a : Option Addr} {cap : Nat} {R : Bool} {args : List Ex} {W : World}
    (HA : Hid (ArgsAt 25 checkB W a args)) (HN : Hid (¬ (args.length ≤ 1 ∧ v1 = 0 ∧ v2 = 0 ∧ v3 = [] ∧ t = [] ∧ o = 0) → R = false)) (HY : Hid ((args.length ≤ 1 ∧ v1 = 0 ∧ v2 = 0 ∧ v3 = [] ∧ t = [] ∧ o = 0) → R = (args.drop 0).all checkB)) :
    Calls Tryz.prog 25 #[EV 5 (v1, v2, v3) t [99, 111, 117, 110, 116] o (.slice a args.length cap)] W fun e w' => e = .returned (.bool R) ∧ Bl W w' := by
  by_cases hm : 1 < (args.length : Int)
  case pos =>
    have HE := Lib.hid (HN.out fun h => by have := h.1; omega)
    go_enter Tryz.func25, Tryz.ntmps25
    go_wp2
    all_goals
      go_ret
      exact ⟨by rw [HE.out] <;> rfl, ((Bl.refl W).alloc _).alloc _⟩
  have hm3 : ¬ 1 < (args.length : Int) := hm
  have H5 := Lib.hid (show args.length ≤ 1 by omega)
  by_cases h0 : (args.length : Int) = 0
  · have hm1 : ((args.length : Int) == 0) = true := by simpa using h0
    have hm2 : ((args.length : Int) != 0) = false := by simpa using h0
    clear h0 hm
    by_cases hv1 : v1 = 0
    case neg =>
      have HE := Lib.hid (HN.out fun h => hv1 h.2.1)
      have hb : (v1 == 0) = false := by simpa using hv1
      have hb' : (v1 != 0) = true := by simpa using hv1
      clear hv1
      go_enter Tryz.func25, Tryz.ntmps25
      go_wp2
      all_goals
        go_ret
        exact ⟨by rw [HE.out] <;> rfl, ((Bl.refl W).alloc _).alloc _⟩
    subst hv1
    by_cases hv2 : v2 = 0
    case neg =>
      have HE := Lib.hid (HN.out fun h => hv2 h.2.2.1)
      have hb : (v2 == 0) = false := by simpa using hv2
      have hb' : (v2 != 0) = true := by simpa using hv2
      clear hv2
      go_enter Tryz.func25, Tryz.ntmps25
      go_wp2
      all_goals
        go_ret
        exact ⟨by rw [HE.out] <;> rfl, ((Bl.refl W).alloc _).alloc _⟩
    subst hv2
    by_cases hv3 : v3 = []
    case neg =>
      have HE := Lib.hid (HN.out fun h => hv3 h.2.2.2.1)
      have hb : (v3 == []) = false := by simpa using hv3
      have hb' : (v3 != []) = true := by simpa using hv3
      clear hv3
      go_enter Tryz.func25, Tryz.ntmps25
      go_wp2
      all_goals
        go_ret
        exact ⟨by rw [HE.out] <;> rfl, ((Bl.refl W).alloc _).alloc _⟩
    subst hv3
    by_cases ht : t = []
    case neg =>
      have HE := Lib.hid (HN.out fun h => ht h.2.2.2.2.1)
      have hb : (t == []) = false := by simpa using ht
      have hb' : (t != []) = true := by simpa using ht
      clear ht
      go_enter Tryz.func25, Tryz.ntmps25
      go_wp2
      all_goals
        go_ret
        exact ⟨by rw [HE.out] <;> rfl, ((Bl.refl W).alloc _).alloc _⟩
    subst ht
    by_cases ho : o = 0
    case neg =>
      have HE := Lib.hid (HN.out fun h => ho h.2.2.2.2.2)
      have hb : (o == 0) = false := by simpa using ho
      have hb' : (o != 0) = true := by simpa using ho
      clear ho
      go_enter Tryz.func25, Tryz.ntmps25
      go_wp2
      all_goals
        go_ret
        exact ⟨by rw [HE.out] <;> rfl, ((Bl.refl W).alloc _).alloc _⟩
    subst ho
    have HE := Lib.hid (HY.out ⟨H5.out, rfl, rfl, rfl, rfl, rfl⟩)
    clear HN HY
    go_enter Tryz.func25, Tryz.ntmps25
    go_wp2_with fail
    clear hm1 hm2 hm3
    go_loopw [6] (fun i wr => ∃ j : Nat, j ≤ args.length ∧ i = .int .i64 (j : Int) ∧ Hid (R = (args.drop j).all checkB) ∧ Bl W wr ∧ Hid (wr.heap[W.heap.size]? = some (.cells #[.int .i64 5, .int .i64 0, .int .i64 0, S [], S [], S [99, 111, 117, 110, 116], .int .i64 0, .slice a args.length cap] 30 (0, 0)))) (fun i _ => args.length - (intOf i).toNat)
    case atStart => exact ⟨0, Nat.zero_le _, rfl, HE.out, (((Bl.refl W).alloc _).alloc _), (two_0 W _ _)⟩
    case round =>
      obtain ⟨j, hj, rfl, HD, hB, HX⟩ := hrel
      obtain ⟨⟨-, -, -, -, -, -, -, c7⟩, -⟩ := eight HX.out
      have hfew := HA.out.few
      by_cases hlt : j < args.length
      · have hltI : (j : Int) < (args.length : Int) := by omega
        obtain ⟨b, off, s, rfl, h8, hr⟩ := HA.out.at8 j hlt
        have HB := Lib.hid hB
        have HY := Lib.hid (HA.out.ih _ (List.getElem_mem hlt))
        have HDj := Lib.hid (alls_drop hlt)
        have HR := Lib.hid (hr.bl hB)
        obtain ⟨e0, e1, e2, e3, e4, e5, e6, e7⟩ := h8.bl hB
        clear h8 hr hB
        generalize hy : args[j] = y at *
        clear hy
        obtain ⟨k', ⟨v1', v2', v3'⟩, t', nm', o', args'⟩ := y
        simp only [Ex.k, Ex.v, Ex.t, Ex.n, Ex.o] at e0 e1 e2 e3 e4 e5 e6
        go_wp2_with fail
        have hRE : ReadsE wr (.mk k' (v1', v2', v3') t' nm' o' args') (EV k' (v1', v2', v3') t' nm' o' s) := ⟨s, rfl, HR.out⟩
        (with_reducible refine (HY.out _ _ hRE).mono ?_)
        rintro e w5 ⟨rfl, hb5⟩
        have HB5 := Lib.hid (HB.out.call hb5)
        have HX5 := Lib.hid ((hb5.block _ (Array.getElem?_eq_some_iff.1 HX.out).1).trans HX.out)
        clear hb5 e0 e1 e2 e3 e4 e5 e6 e7 c7 hRE
        cases hs : checkB (.mk k' (v1', v2', v3') t' nm' o' args')
        · have HF := Lib.hid (show R = false from by rw [HD.out, HDj.out, hs]; rfl)
          clear hs
          go_wp2
          go_ret
          exact ⟨by rw [HF.out] <;> rfl, HB5.out⟩
        · have HF := Lib.hid (show R = (args.drop (j + 1)).all checkB from by rw [HD.out, HDj.out, hs]; rfl)
          clear hs
          go_wp2
          go_roundw
          case rel => exact ⟨j + 1, by omega, by go_num, HF.out, HB5.out, HX5.out⟩
          case measure => simp [intOf]; omega
      · obtain rfl : j = args.length := by omega
        have HF : Hid (R = true) := by show R = true; rw [HD.out, List.drop_length]; rfl
        have HB := Lib.hid hB
        clear hB
        go_wp2
        go_ret
        exact ⟨by rw [HF.out] <;> rfl, HB.out⟩
  · have hm1 : ((args.length : Int) == 0) = false := by simpa using h0
    have hm2 : ((args.length : Int) != 0) = true := by simpa using h0
    clear h0 hm
    by_cases hv1 : v1 = 0
    case neg =>
      have HE := Lib.hid (HN.out fun h => hv1 h.2.1)
      have hb : (v1 == 0) = false := by simpa using hv1
      have hb' : (v1 != 0) = true := by simpa using hv1
      clear hv1
      go_enter Tryz.func25, Tryz.ntmps25
      go_wp2
      all_goals
        go_ret
        exact ⟨by rw [HE.out] <;> rfl, ((Bl.refl W).alloc _).alloc _⟩
    subst hv1
    by_cases hv2 : v2 = 0
    case neg =>
      have HE := Lib.hid (HN.out fun h => hv2 h.2.2.1)
      have hb : (v2 == 0) = false := by simpa using hv2
      have hb' : (v2 != 0) = true := by simpa using hv2
      clear hv2
      go_enter Tryz.func25, Tryz.ntmps25
      go_wp2
      all_goals
        go_ret
        exact ⟨by rw [HE.out] <;> rfl, ((Bl.refl W).alloc _).alloc _⟩
    subst hv2
    by_cases hv3 : v3 = []
    case neg =>
      have HE := Lib.hid (HN.out fun h => hv3 h.2.2.2.1)
      have hb : (v3 == []) = false := by simpa using hv3
      have hb' : (v3 != []) = true := by simpa using hv3
      clear hv3
      go_enter Tryz.func25, Tryz.ntmps25
      go_wp2
      all_goals
        go_ret
        exact ⟨by rw [HE.out] <;> rfl, ((Bl.refl W).alloc _).alloc _⟩
    subst hv3
    by_cases ht : t = []
    case neg =>
      have HE := Lib.hid (HN.out fun h => ht h.2.2.2.2.1)
      have hb : (t == []) = false := by simpa using ht
      have hb' : (t != []) = true := by simpa using ht
      clear ht
      go_enter Tryz.func25, Tryz.ntmps25
      go_wp2
      all_goals
        go_ret
        exact ⟨by rw [HE.out] <;> rfl, ((Bl.refl W).alloc _).alloc _⟩
    subst ht
    by_cases ho : o = 0
    case neg =>
      have HE := Lib.hid (HN.out fun h => ho h.2.2.2.2.2)
      have hb : (o == 0) = false := by simpa using ho
      have hb' : (o != 0) = true := by simpa using ho
      clear ho
      go_enter Tryz.func25, Tryz.ntmps25
      go_wp2
      all_goals
        go_ret
        exact ⟨by rw [HE.out] <;> rfl, ((Bl.refl W).alloc _).alloc _⟩
    subst ho
    have HE := Lib.hid (HY.out ⟨H5.out, rfl, rfl, rfl, rfl, rfl⟩)
    clear HN HY
    go_enter Tryz.func25, Tryz.ntmps25
    go_wp2_with fail
    clear hm1 hm2 hm3
    go_loopw [6] (fun i wr => ∃ j : Nat, j ≤ args.length ∧ i = .int .i64 (j : Int) ∧ Hid (R = (args.drop j).all checkB) ∧ Bl W wr ∧ Hid (wr.heap[W.heap.size]? = some (.cells #[.int .i64 5, .int .i64 0, .int .i64 0, S [], S [], S [99, 111, 117, 110, 116], .int .i64 0, .slice a args.length cap] 30 (0, 0)))) (fun i _ => args.length - (intOf i).toNat)
    case atStart => exact ⟨0, Nat.zero_le _, rfl, HE.out, (((Bl.refl W).alloc _).alloc _), (two_0 W _ _)⟩
    case round =>
      obtain ⟨j, hj, rfl, HD, hB, HX⟩ := hrel
      obtain ⟨⟨-, -, -, -, -, -, -, c7⟩, -⟩ := eight HX.out
      have hfew := HA.out.few
      by_cases hlt : j < args.length
      · have hltI : (j : Int) < (args.length : Int) := by omega
        obtain ⟨b, off, s, rfl, h8, hr⟩ := HA.out.at8 j hlt
        have HB := Lib.hid hB
        have HY := Lib.hid (HA.out.ih _ (List.getElem_mem hlt))
        have HDj := Lib.hid (alls_drop hlt)
        have HR := Lib.hid (hr.bl hB)
        obtain ⟨e0, e1, e2, e3, e4, e5, e6, e7⟩ := h8.bl hB
        clear h8 hr hB
        generalize hy : args[j] = y at *
        clear hy
        obtain ⟨k', ⟨v1', v2', v3'⟩, t', nm', o', args'⟩ := y
        simp only [Ex.k, Ex.v, Ex.t, Ex.n, Ex.o] at e0 e1 e2 e3 e4 e5 e6
        go_wp2_with fail
        have hRE : ReadsE wr (.mk k' (v1', v2', v3') t' nm' o' args') (EV k' (v1', v2', v3') t' nm' o' s) := ⟨s, rfl, HR.out⟩
        (with_reducible refine (HY.out _ _ hRE).mono ?_)
        rintro e w5 ⟨rfl, hb5⟩
        have HB5 := Lib.hid (HB.out.call hb5)
        have HX5 := Lib.hid ((hb5.block _ (Array.getElem?_eq_some_iff.1 HX.out).1).trans HX.out)
        clear hb5 e0 e1 e2 e3 e4 e5 e6 e7 c7 hRE
        cases hs : checkB (.mk k' (v1', v2', v3') t' nm' o' args')
        · have HF := Lib.hid (show R = false from by rw [HD.out, HDj.out, hs]; rfl)
          clear hs
          go_wp2
          go_ret
          exact ⟨by rw [HF.out] <;> rfl, HB5.out⟩
        · have HF := Lib.hid (show R = (args.drop (j + 1)).all checkB from by rw [HD.out, HDj.out, hs]; rfl)
          clear hs
          go_wp2
          go_roundw
          case rel => exact ⟨j + 1, by omega, by go_num, HF.out, HB5.out, HX5.out⟩
          case measure => simp [intOf]; omega
      · obtain rfl : j = args.length := by omega
        have HF : Hid (R = true) := by show R = true; rw [HD.out, List.drop_length]; rfl
        have HB := Lib.hid hB
        clear hB
        go_wp2
        go_ret
        exact ⟨by rw [HF.out] <;> rfl, HB.out⟩
--END4
--BEGIN5
set_option maxHeartbeats 8000000 in
theorem xright_5s {v1 v2 o : Int} {v3 t n : List UInt8} {a : Option Addr} {cap : Nat} {R : Bool} {args : List Ex} {W : World} (hs : n = [115, 117, 109] ∨ n = [109, 105, 110] ∨ n = [109, 97, 120])
    (HA : Hid (ArgsAt 25 checkB W a args)) (HN : Hid (¬ (args.length = 1 ∧ v1 = 0 ∧ v2 = 0 ∧ v3 = [] ∧ t = [] ∧ o = 0) → R = false)) (HY : Hid ((args.length = 1 ∧ v1 = 0 ∧ v2 = 0 ∧ v3 = [] ∧ t = [] ∧ o = 0) → R = (args.drop 0).all checkB)) :
    Calls Tryz.prog 25 #[EV 5 (v1, v2, v3) t n o (.slice a args.length cap)] W fun e w' => e = .returned (.bool R) ∧ Bl W w' := by
  have h5 : args.length = 1 ∨ args.length ≠ 1 := by omega
  rcases hs with rfl | rfl | rfl
  · clear h5
    by_cases hm : 1 < (args.length : Int)
    case pos =>
      have HE := Lib.hid (HN.out fun h => by have := h.1; omega)
      go_enter Tryz.func25, Tryz.ntmps25
      go_wp2
      all_goals
        go_ret
        exact ⟨by rw [HE.out] <;> rfl, ((Bl.refl W).alloc _).alloc _⟩
    have hm3 : ¬ 1 < (args.length : Int) := hm
    by_cases h0 : (args.length : Int) = 0
    case pos =>
      have HE := Lib.hid (HN.out fun h => by have := h.1; omega)
      have hm1 : ((args.length : Int) == 0) = true := by simpa using h0
      have hm2 : ((args.length : Int) != 0) = false := by simpa using h0
      clear h0
      go_enter Tryz.func25, Tryz.ntmps25
      go_wp2
      all_goals
        go_ret
        exact ⟨by rw [HE.out] <;> rfl, ((Bl.refl W).alloc _).alloc _⟩
    have H5 := Lib.hid (show args.length = 1 by omega)
    have hm1 : ((args.length : Int) == 0) = false := by simpa using h0
    have hm2 : ((args.length : Int) != 0) = true := by simpa using h0
    clear h0 hm
    by_cases hv1 : v1 = 0
    case neg =>
      have HE := Lib.hid (HN.out fun h => hv1 h.2.1)
      have hb : (v1 == 0) = false := by simpa using hv1
      have hb' : (v1 != 0) = true := by simpa using hv1
      clear hv1
      go_enter Tryz.func25, Tryz.ntmps25
      go_wp2
      all_goals
        go_ret
        exact ⟨by rw [HE.out] <;> rfl, ((Bl.refl W).alloc _).alloc _⟩
    subst hv1
    by_cases hv2 : v2 = 0
    case neg =>
      have HE := Lib.hid (HN.out fun h => hv2 h.2.2.1)
      have hb : (v2 == 0) = false := by simpa using hv2
      have hb' : (v2 != 0) = true := by simpa using hv2
      clear hv2
      go_enter Tryz.func25, Tryz.ntmps25
      go_wp2
      all_goals
        go_ret
        exact ⟨by rw [HE.out] <;> rfl, ((Bl.refl W).alloc _).alloc _⟩
    subst hv2
    by_cases hv3 : v3 = []
    case neg =>
      have HE := Lib.hid (HN.out fun h => hv3 h.2.2.2.1)
      have hb : (v3 == []) = false := by simpa using hv3
      have hb' : (v3 != []) = true := by simpa using hv3
      clear hv3
      go_enter Tryz.func25, Tryz.ntmps25
      go_wp2
      all_goals
        go_ret
        exact ⟨by rw [HE.out] <;> rfl, ((Bl.refl W).alloc _).alloc _⟩
    subst hv3
    by_cases ht : t = []
    case neg =>
      have HE := Lib.hid (HN.out fun h => ht h.2.2.2.2.1)
      have hb : (t == []) = false := by simpa using ht
      have hb' : (t != []) = true := by simpa using ht
      clear ht
      go_enter Tryz.func25, Tryz.ntmps25
      go_wp2
      all_goals
        go_ret
        exact ⟨by rw [HE.out] <;> rfl, ((Bl.refl W).alloc _).alloc _⟩
    subst ht
    by_cases ho : o = 0
    case neg =>
      have HE := Lib.hid (HN.out fun h => ho h.2.2.2.2.2)
      have hb : (o == 0) = false := by simpa using ho
      have hb' : (o != 0) = true := by simpa using ho
      clear ho
      go_enter Tryz.func25, Tryz.ntmps25
      go_wp2
      all_goals
        go_ret
        exact ⟨by rw [HE.out] <;> rfl, ((Bl.refl W).alloc _).alloc _⟩
    subst ho
    have HE := Lib.hid (HY.out ⟨H5.out, rfl, rfl, rfl, rfl, rfl⟩)
    clear HN HY
    go_enter Tryz.func25, Tryz.ntmps25
    go_wp2_with fail
    clear hm1 hm2 hm3
    go_loopw [6] (fun i wr => ∃ j : Nat, j ≤ args.length ∧ i = .int .i64 (j : Int) ∧ Hid (R = (args.drop j).all checkB) ∧ Bl W wr ∧ Hid (wr.heap[W.heap.size]? = some (.cells #[.int .i64 5, .int .i64 0, .int .i64 0, S [], S [], S [115, 117, 109], .int .i64 0, .slice a args.length cap] 30 (0, 0)))) (fun i _ => args.length - (intOf i).toNat)
    case atStart => exact ⟨0, Nat.zero_le _, rfl, HE.out, (((Bl.refl W).alloc _).alloc _), (two_0 W _ _)⟩
    case round =>
      obtain ⟨j, hj, rfl, HD, hB, HX⟩ := hrel
      obtain ⟨⟨-, -, -, -, -, -, -, c7⟩, -⟩ := eight HX.out
      have hfew := HA.out.few
      by_cases hlt : j < args.length
      · have hltI : (j : Int) < (args.length : Int) := by omega
        obtain ⟨b, off, s, rfl, h8, hr⟩ := HA.out.at8 j hlt
        have HB := Lib.hid hB
        have HY := Lib.hid (HA.out.ih _ (List.getElem_mem hlt))
        have HDj := Lib.hid (alls_drop hlt)
        have HR := Lib.hid (hr.bl hB)
        obtain ⟨e0, e1, e2, e3, e4, e5, e6, e7⟩ := h8.bl hB
        clear h8 hr hB
        generalize hy : args[j] = y at *
        clear hy
        obtain ⟨k', ⟨v1', v2', v3'⟩, t', nm', o', args'⟩ := y
        simp only [Ex.k, Ex.v, Ex.t, Ex.n, Ex.o] at e0 e1 e2 e3 e4 e5 e6
        go_wp2_with fail
        have hRE : ReadsE wr (.mk k' (v1', v2', v3') t' nm' o' args') (EV k' (v1', v2', v3') t' nm' o' s) := ⟨s, rfl, HR.out⟩
        (with_reducible refine (HY.out _ _ hRE).mono ?_)
        rintro e w5 ⟨rfl, hb5⟩
        have HB5 := Lib.hid (HB.out.call hb5)
        have HX5 := Lib.hid ((hb5.block _ (Array.getElem?_eq_some_iff.1 HX.out).1).trans HX.out)
        clear hb5 e0 e1 e2 e3 e4 e5 e6 e7 c7 hRE
        cases hs : checkB (.mk k' (v1', v2', v3') t' nm' o' args')
        · have HF := Lib.hid (show R = false from by rw [HD.out, HDj.out, hs]; rfl)
          clear hs
          go_wp2
          go_ret
          exact ⟨by rw [HF.out] <;> rfl, HB5.out⟩
        · have HF := Lib.hid (show R = (args.drop (j + 1)).all checkB from by rw [HD.out, HDj.out, hs]; rfl)
          clear hs
          go_wp2
          go_roundw
          case rel => exact ⟨j + 1, by omega, by go_num, HF.out, HB5.out, HX5.out⟩
          case measure => simp [intOf]; omega
      · obtain rfl : j = args.length := by omega
        have HF : Hid (R = true) := by show R = true; rw [HD.out, List.drop_length]; rfl
        have HB := Lib.hid hB
        clear hB
        go_wp2
        go_ret
        exact ⟨by rw [HF.out] <;> rfl, HB.out⟩
  · clear h5
    by_cases hm : 1 < (args.length : Int)
    case pos =>
      have HE := Lib.hid (HN.out fun h => by have := h.1; omega)
      go_enter Tryz.func25, Tryz.ntmps25
      go_wp2
      all_goals
        go_ret
        exact ⟨by rw [HE.out] <;> rfl, ((Bl.refl W).alloc _).alloc _⟩
    have hm3 : ¬ 1 < (args.length : Int) := hm
    by_cases h0 : (args.length : Int) = 0
    case pos =>
      have HE := Lib.hid (HN.out fun h => by have := h.1; omega)
      have hm1 : ((args.length : Int) == 0) = true := by simpa using h0
      have hm2 : ((args.length : Int) != 0) = false := by simpa using h0
      clear h0
      go_enter Tryz.func25, Tryz.ntmps25
      go_wp2
      all_goals
        go_ret
        exact ⟨by rw [HE.out] <;> rfl, ((Bl.refl W).alloc _).alloc _⟩
    have H5 := Lib.hid (show args.length = 1 by omega)
    have hm1 : ((args.length : Int) == 0) = false := by simpa using h0
    have hm2 : ((args.length : Int) != 0) = true := by simpa using h0
    clear h0 hm
    by_cases hv1 : v1 = 0
    case neg =>
      have HE := Lib.hid (HN.out fun h => hv1 h.2.1)
      have hb : (v1 == 0) = false := by simpa using hv1
      have hb' : (v1 != 0) = true := by simpa using hv1
      clear hv1
      go_enter Tryz.func25, Tryz.ntmps25
      go_wp2
      all_goals
        go_ret
        exact ⟨by rw [HE.out] <;> rfl, ((Bl.refl W).alloc _).alloc _⟩
    subst hv1
    by_cases hv2 : v2 = 0
    case neg =>
      have HE := Lib.hid (HN.out fun h => hv2 h.2.2.1)
      have hb : (v2 == 0) = false := by simpa using hv2
      have hb' : (v2 != 0) = true := by simpa using hv2
      clear hv2
      go_enter Tryz.func25, Tryz.ntmps25
      go_wp2
      all_goals
        go_ret
        exact ⟨by rw [HE.out] <;> rfl, ((Bl.refl W).alloc _).alloc _⟩
    subst hv2
    by_cases hv3 : v3 = []
    case neg =>
      have HE := Lib.hid (HN.out fun h => hv3 h.2.2.2.1)
      have hb : (v3 == []) = false := by simpa using hv3
      have hb' : (v3 != []) = true := by simpa using hv3
      clear hv3
      go_enter Tryz.func25, Tryz.ntmps25
      go_wp2
      all_goals
        go_ret
        exact ⟨by rw [HE.out] <;> rfl, ((Bl.refl W).alloc _).alloc _⟩
    subst hv3
    by_cases ht : t = []
    case neg =>
      have HE := Lib.hid (HN.out fun h => ht h.2.2.2.2.1)
      have hb : (t == []) = false := by simpa using ht
      have hb' : (t != []) = true := by simpa using ht
      clear ht
      go_enter Tryz.func25, Tryz.ntmps25
      go_wp2
      all_goals
        go_ret
        exact ⟨by rw [HE.out] <;> rfl, ((Bl.refl W).alloc _).alloc _⟩
    subst ht
    by_cases ho : o = 0
    case neg =>
      have HE := Lib.hid (HN.out fun h => ho h.2.2.2.2.2)
      have hb : (o == 0) = false := by simpa using ho
      have hb' : (o != 0) = true := by simpa using ho
      clear ho
      go_enter Tryz.func25, Tryz.ntmps25
      go_wp2
      all_goals
        go_ret
        exact ⟨by rw [HE.out] <;> rfl, ((Bl.refl W).alloc _).alloc _⟩
    subst ho
    have HE := Lib.hid (HY.out ⟨H5.out, rfl, rfl, rfl, rfl, rfl⟩)
    clear HN HY
    go_enter Tryz.func25, Tryz.ntmps25
    go_wp2_with fail
    clear hm1 hm2 hm3
    go_loopw [6] (fun i wr => ∃ j : Nat, j ≤ args.length ∧ i = .int .i64 (j : Int) ∧ Hid (R = (args.drop j).all checkB) ∧ Bl W wr ∧ Hid (wr.heap[W.heap.size]? = some (.cells #[.int .i64 5, .int .i64 0, .int .i64 0, S [], S [], S [109, 105, 110], .int .i64 0, .slice a args.length cap] 30 (0, 0)))) (fun i _ => args.length - (intOf i).toNat)
    case atStart => exact ⟨0, Nat.zero_le _, rfl, HE.out, (((Bl.refl W).alloc _).alloc _), (two_0 W _ _)⟩
    case round =>
      obtain ⟨j, hj, rfl, HD, hB, HX⟩ := hrel
      obtain ⟨⟨-, -, -, -, -, -, -, c7⟩, -⟩ := eight HX.out
      have hfew := HA.out.few
      by_cases hlt : j < args.length
      · have hltI : (j : Int) < (args.length : Int) := by omega
        obtain ⟨b, off, s, rfl, h8, hr⟩ := HA.out.at8 j hlt
        have HB := Lib.hid hB
        have HY := Lib.hid (HA.out.ih _ (List.getElem_mem hlt))
        have HDj := Lib.hid (alls_drop hlt)
        have HR := Lib.hid (hr.bl hB)
        obtain ⟨e0, e1, e2, e3, e4, e5, e6, e7⟩ := h8.bl hB
        clear h8 hr hB
        generalize hy : args[j] = y at *
        clear hy
        obtain ⟨k', ⟨v1', v2', v3'⟩, t', nm', o', args'⟩ := y
        simp only [Ex.k, Ex.v, Ex.t, Ex.n, Ex.o] at e0 e1 e2 e3 e4 e5 e6
        go_wp2_with fail
        have hRE : ReadsE wr (.mk k' (v1', v2', v3') t' nm' o' args') (EV k' (v1', v2', v3') t' nm' o' s) := ⟨s, rfl, HR.out⟩
        (with_reducible refine (HY.out _ _ hRE).mono ?_)
        rintro e w5 ⟨rfl, hb5⟩
        have HB5 := Lib.hid (HB.out.call hb5)
        have HX5 := Lib.hid ((hb5.block _ (Array.getElem?_eq_some_iff.1 HX.out).1).trans HX.out)
        clear hb5 e0 e1 e2 e3 e4 e5 e6 e7 c7 hRE
        cases hs : checkB (.mk k' (v1', v2', v3') t' nm' o' args')
        · have HF := Lib.hid (show R = false from by rw [HD.out, HDj.out, hs]; rfl)
          clear hs
          go_wp2
          go_ret
          exact ⟨by rw [HF.out] <;> rfl, HB5.out⟩
        · have HF := Lib.hid (show R = (args.drop (j + 1)).all checkB from by rw [HD.out, HDj.out, hs]; rfl)
          clear hs
          go_wp2
          go_roundw
          case rel => exact ⟨j + 1, by omega, by go_num, HF.out, HB5.out, HX5.out⟩
          case measure => simp [intOf]; omega
      · obtain rfl : j = args.length := by omega
        have HF : Hid (R = true) := by show R = true; rw [HD.out, List.drop_length]; rfl
        have HB := Lib.hid hB
        clear hB
        go_wp2
        go_ret
        exact ⟨by rw [HF.out] <;> rfl, HB.out⟩
  · clear h5
    by_cases hm : 1 < (args.length : Int)
    case pos =>
      have HE := Lib.hid (HN.out fun h => by have := h.1; omega)
      go_enter Tryz.func25, Tryz.ntmps25
      go_wp2
      all_goals
        go_ret
        exact ⟨by rw [HE.out] <;> rfl, ((Bl.refl W).alloc _).alloc _⟩
    have hm3 : ¬ 1 < (args.length : Int) := hm
    by_cases h0 : (args.length : Int) = 0
    case pos =>
      have HE := Lib.hid (HN.out fun h => by have := h.1; omega)
      have hm1 : ((args.length : Int) == 0) = true := by simpa using h0
      have hm2 : ((args.length : Int) != 0) = false := by simpa using h0
      clear h0
      go_enter Tryz.func25, Tryz.ntmps25
      go_wp2
      all_goals
        go_ret
        exact ⟨by rw [HE.out] <;> rfl, ((Bl.refl W).alloc _).alloc _⟩
    have H5 := Lib.hid (show args.length = 1 by omega)
    have hm1 : ((args.length : Int) == 0) = false := by simpa using h0
    have hm2 : ((args.length : Int) != 0) = true := by simpa using h0
    clear h0 hm
    by_cases hv1 : v1 = 0
    case neg =>
      have HE := Lib.hid (HN.out fun h => hv1 h.2.1)
      have hb : (v1 == 0) = false := by simpa using hv1
      have hb' : (v1 != 0) = true := by simpa using hv1
      clear hv1
      go_enter Tryz.func25, Tryz.ntmps25
      go_wp2
      all_goals
        go_ret
        exact ⟨by rw [HE.out] <;> rfl, ((Bl.refl W).alloc _).alloc _⟩
    subst hv1
    by_cases hv2 : v2 = 0
    case neg =>
      have HE := Lib.hid (HN.out fun h => hv2 h.2.2.1)
      have hb : (v2 == 0) = false := by simpa using hv2
      have hb' : (v2 != 0) = true := by simpa using hv2
      clear hv2
      go_enter Tryz.func25, Tryz.ntmps25
      go_wp2
      all_goals
        go_ret
        exact ⟨by rw [HE.out] <;> rfl, ((Bl.refl W).alloc _).alloc _⟩
    subst hv2
    by_cases hv3 : v3 = []
    case neg =>
      have HE := Lib.hid (HN.out fun h => hv3 h.2.2.2.1)
      have hb : (v3 == []) = false := by simpa using hv3
      have hb' : (v3 != []) = true := by simpa using hv3
      clear hv3
      go_enter Tryz.func25, Tryz.ntmps25
      go_wp2
      all_goals
        go_ret
        exact ⟨by rw [HE.out] <;> rfl, ((Bl.refl W).alloc _).alloc _⟩
    subst hv3
    by_cases ht : t = []
    case neg =>
      have HE := Lib.hid (HN.out fun h => ht h.2.2.2.2.1)
      have hb : (t == []) = false := by simpa using ht
      have hb' : (t != []) = true := by simpa using ht
      clear ht
      go_enter Tryz.func25, Tryz.ntmps25
      go_wp2
      all_goals
        go_ret
        exact ⟨by rw [HE.out] <;> rfl, ((Bl.refl W).alloc _).alloc _⟩
    subst ht
    by_cases ho : o = 0
    case neg =>
      have HE := Lib.hid (HN.out fun h => ho h.2.2.2.2.2)
      have hb : (o == 0) = false := by simpa using ho
      have hb' : (o != 0) = true := by simpa using ho
      clear ho
      go_enter Tryz.func25, Tryz.ntmps25
      go_wp2
      all_goals
        go_ret
        exact ⟨by rw [HE.out] <;> rfl, ((Bl.refl W).alloc _).alloc _⟩
    subst ho
    have HE := Lib.hid (HY.out ⟨H5.out, rfl, rfl, rfl, rfl, rfl⟩)
    clear HN HY
    go_enter Tryz.func25, Tryz.ntmps25
    go_wp2_with fail
    clear hm1 hm2 hm3
    go_loopw [6] (fun i wr => ∃ j : Nat, j ≤ args.length ∧ i = .int .i64 (j : Int) ∧ Hid (R = (args.drop j).all checkB) ∧ Bl W wr ∧ Hid (wr.heap[W.heap.size]? = some (.cells #[.int .i64 5, .int .i64 0, .int .i64 0, S [], S [], S [109, 97, 120], .int .i64 0, .slice a args.length cap] 30 (0, 0)))) (fun i _ => args.length - (intOf i).toNat)
    case atStart => exact ⟨0, Nat.zero_le _, rfl, HE.out, (((Bl.refl W).alloc _).alloc _), (two_0 W _ _)⟩
    case round =>
      obtain ⟨j, hj, rfl, HD, hB, HX⟩ := hrel
      obtain ⟨⟨-, -, -, -, -, -, -, c7⟩, -⟩ := eight HX.out
      have hfew := HA.out.few
      by_cases hlt : j < args.length
      · have hltI : (j : Int) < (args.length : Int) := by omega
        obtain ⟨b, off, s, rfl, h8, hr⟩ := HA.out.at8 j hlt
        have HB := Lib.hid hB
        have HY := Lib.hid (HA.out.ih _ (List.getElem_mem hlt))
        have HDj := Lib.hid (alls_drop hlt)
        have HR := Lib.hid (hr.bl hB)
        obtain ⟨e0, e1, e2, e3, e4, e5, e6, e7⟩ := h8.bl hB
        clear h8 hr hB
        generalize hy : args[j] = y at *
        clear hy
        obtain ⟨k', ⟨v1', v2', v3'⟩, t', nm', o', args'⟩ := y
        simp only [Ex.k, Ex.v, Ex.t, Ex.n, Ex.o] at e0 e1 e2 e3 e4 e5 e6
        go_wp2_with fail
        have hRE : ReadsE wr (.mk k' (v1', v2', v3') t' nm' o' args') (EV k' (v1', v2', v3') t' nm' o' s) := ⟨s, rfl, HR.out⟩
        (with_reducible refine (HY.out _ _ hRE).mono ?_)
        rintro e w5 ⟨rfl, hb5⟩
        have HB5 := Lib.hid (HB.out.call hb5)
        have HX5 := Lib.hid ((hb5.block _ (Array.getElem?_eq_some_iff.1 HX.out).1).trans HX.out)
        clear hb5 e0 e1 e2 e3 e4 e5 e6 e7 c7 hRE
        cases hs : checkB (.mk k' (v1', v2', v3') t' nm' o' args')
        · have HF := Lib.hid (show R = false from by rw [HD.out, HDj.out, hs]; rfl)
          clear hs
          go_wp2
          go_ret
          exact ⟨by rw [HF.out] <;> rfl, HB5.out⟩
        · have HF := Lib.hid (show R = (args.drop (j + 1)).all checkB from by rw [HD.out, HDj.out, hs]; rfl)
          clear hs
          go_wp2
          go_roundw
          case rel => exact ⟨j + 1, by omega, by go_num, HF.out, HB5.out, HX5.out⟩
          case measure => simp [intOf]; omega
      · obtain rfl : j = args.length := by omega
        have HF : Hid (R = true) := by show R = true; rw [HD.out, List.drop_length]; rfl
        have HB := Lib.hid hB
        clear hB
        go_wp2
        go_ret
        exact ⟨by rw [HF.out] <;> rfl, HB.out⟩
--END5
--BEGIN6
set_option maxHeartbeats 8000000 in
theorem xright_5n {v1 v2 o : Int} {v3 t n : List UInt8} {a : Option Addr} {m cap : Nat} {W : World} (h1 : n ≠ [99, 111, 117, 110, 116]) (h2 : n ≠ [115, 117, 109]) (h3 : n ≠ [109, 105, 110]) (h4 : n ≠ [109, 97, 120]) :
    Calls Tryz.prog 25 #[EV 5 (v1, v2, v3) t n o (.slice a m cap)] W fun e w' => e = .returned (.bool false) ∧ Bl W w' := by
  have b1 : (n == [99, 111, 117, 110, 116]) = false := by simpa using h1
  have b2 : (n == [115, 117, 109]) = false := by simpa using h2
  have b3 : (n == [109, 105, 110]) = false := by simpa using h3
  have b4 : (n == [109, 97, 120]) = false := by simpa using h4
  have c1 : (n != [99, 111, 117, 110, 116]) = true := by simpa using h1
  have c2 : (n != [115, 117, 109]) = true := by simpa using h2
  have c3 : (n != [109, 105, 110]) = true := by simpa using h3
  have c4 : (n != [109, 97, 120]) = true := by simpa using h4
  clear h1 h2 h3 h4
  go_enter Tryz.func25, Tryz.ntmps25
  go_wp2
  go_ret
  exact ⟨rfl, ((Bl.refl W).alloc _).alloc _⟩
--END6
--BEGIN7
set_option maxHeartbeats 8000000 in
theorem xright_0 {k v1 v2 o : Int} {v3 t n : List UInt8} {a : Option Addr} {m cap : Nat} {W : World} (h1 : k ≠ 1) (h2 : k ≠ 2) (h3 : k ≠ 3) (h4 : k ≠ 4) (h5 : k ≠ 5) :
    Calls Tryz.prog 25 #[EV k (v1, v2, v3) t n o (.slice a m cap)] W fun e w' => e = .returned (.bool false) ∧ Bl W w' := by
  have b1 : (k == 1) = false := by simpa using h1
  have b2 : (k == 2) = false := by simpa using h2
  have b3 : (k == 3) = false := by simpa using h3
  have b4 : (k == 4) = false := by simpa using h4
  have b5 : (k == 5) = false := by simpa using h5
  clear h1 h2 h3 h4 h5
  go_enter Tryz.func25, Tryz.ntmps25
  go_wp2
  go_ret
  exact ⟨rfl, ((Bl.refl W).alloc _).alloc _⟩
--END7
end Go.Proofs.YtepkfkfedmbmnaaGreatDoor
