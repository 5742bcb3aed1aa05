/- The program's name. The program's right. The program's right at sums. The program's right answers rightB. -/
import Derived.Test.YtepkfkfedmbmnaaGreatDoorMA
import Derived.Test.YtepkfkfedmbmnaaGreatDoorMK0
import Derived.Test.YtepkfkfedmbmnaaGreatDoorMQ
import Derived.Test.YtepkfkfedmbmnaaGreatDoorMY
import Derived.Test.YtepkfkfedmbmnaaGreatDoorMT2
namespace Go.Proofs.YtepkfkfedmbmnaaGreatDoor
open Go.RowKit
set_option maxRecDepth 100000

theorem toksF_kinds {parse : List UInt8 → Option (Int × Int × List UInt8)} (N : Nat) : ∀ (f : Nat) (s : List UInt8) (l : List Tok), toksF parse N f s = some l → ∀ x ∈ l, x.k ≠ 4
  | 0, _, _, h => by cases h
  | f + 1, s, l, h => by
    unfold toksF at h
    split at h
    · injection h with h
      subst h
      intro x hx
      cases hx
    · obtain ⟨y, h1, h2⟩ := Option.bind_eq_some_iff.1 h
      obtain ⟨r, h3, h4⟩ := Option.map_eq_some_iff.1 h2
      subst h4
      intro x hx
      rcases List.mem_cons.1 hx with rfl | hx
      · have := (one1_le h1).2.2
        show y.1 ≠ 4
        omega
      · exact toksF_kinds N f _ r h3 x hx
theorem toks_kinds {s : List UInt8} {ts : List Tok} (h : toksO s = some ts) : ∀ x ∈ ts, x.k ≠ 4 := toksF_kinds _ _ _ ts h
--BEGIN1
set_option maxHeartbeats 2000000 in
theorem ename_bad (s : List UInt8) (hs : s.length ≤ 9223372036854775807) (h : allErr s ≠ 0) (W : World) (hG : Glob W) : Calls Tryz.prog 73 #[S s] W fun e w' => e = .returned (.bool (nameB s)) ∧ Bl W w' := by
  rw [nameB_bad h]
  have hb0 : (allErr s == 0) = false := by simpa using h
  have HA := Lib.hid h
  clear h
  go_enter Tryz.func73, Tryz.ntmps73
  go_wp2_with fail
  (with_reducible refine (tNew_bad s hs HA.out _ hG).mono ?_)
  rintro e w1 ⟨rfl, hb1⟩
  go_wp2_with fail
  (with_reducible refine (tName_none (W := w1) (p := none) (by unfold NoStr; exact Or.inl rfl)).mono ?_)
  rintro e w2 ⟨rfl, hb2⟩
  go_wp2
  go_ret
  exact ⟨rfl, hb1.call hb2⟩
--END1
--BEGIN2
set_option maxHeartbeats 4000000 in
theorem ename_good (s : List UInt8) (hs : s.length ≤ 4000) (ts : List Tok) (h : toksO s = some ts) (W : World) (hG : Glob W) : Calls Tryz.prog 73 #[S s] W fun e w' => e = .returned (.bool (nameB s)) ∧ Bl W w' := by
  have HT := Lib.hid (tok_ok h)
  have HTS := Lib.hid h
  have HN := Lib.hid (nameB_of hs h)
  have hfld : ∀ (y : Tok) (w : World), Sem.run Tryz.prog (Instr.field 53 (TVt y) 0) w = .ok (.int .i64 y.k) w := fun _ _ => rfl
  clear h
  go_enter Tryz.func73, Tryz.ntmps73
  go_wp2_with fail
  (with_reducible refine (tNew_good s hs ts HTS.out _ hG).mono ?_)
  rintro e w1 ⟨bs, g, cap, rfl, hb1, hbs, hgs, hs1⟩
  have HS1 := Lib.hid hs1
  have HB1 := Lib.hid hb1
  obtain ⟨tl, htl⟩ : ∃ tl, Hid (tl = ts ++ [endTok s.length]) := ⟨_, rfl⟩
  rw [← htl.out] at HS1 HT
  clear hs1 hb1
  cases hn : nameK tl 0 with
  | none =>
    have HF := Lib.hid (show nameB s = false from by
      rw [HN.out]
      rcases ts with _ | ⟨x, _ | ⟨y, r⟩⟩
      · rfl
      · have hx : tl[0]? = some x := by rw [htl.out]; rfl
        unfold nameK at hn
        rw [hx] at hn
        simp only at hn
        split at hn
        · cases hn
        · rename_i hi
          show (isName1 x && (x.t == s)) = false
          rw [show isName1 x = false by simpa using hi]
          rfl
      · rfl)
    have HNN := Lib.hid hn
    clear hn
    go_wp2_with fail
    (with_reducible refine (name_no HS1.out HNN.out).mono ?_)
    rintro e w2 ⟨rfl, hg2, hs2⟩
    have HB2 := Lib.hid (show Bl W w2 from Below.grown HB1.out hg2 HB1.out.size (fun j hj => by injection hj with hj; subst hj; exact hbs))
    clear hg2 hs2
    go_wp2
    go_ret
    exact ⟨by rw [HF.out]; rfl, HB2.out⟩
  | some q =>
    obtain ⟨n, k1⟩ := q
    have HNN := Lib.hid hn
    have hx : ∃ x r, ts = x :: r ∧ isName1 x = true ∧ x.t = n ∧ k1 = 1 := by
      rcases ts with _ | ⟨x, r⟩
      · have hx : tl[0]? = some (endTok s.length) := by rw [htl.out]; rfl
        unfold nameK at hn
        rw [hx] at hn
        simp [isName1, endTok] at hn
      · have hx : tl[0]? = some x := by rw [htl.out]; rfl
        unfold nameK at hn
        rw [hx] at hn
        simp only at hn
        split at hn
        · rename_i hi
          injection hn with hn
          injection hn with h1 h2
          refine ⟨x, r, rfl, hi, h1, ?_⟩
          rw [← h2, htl.out]
          unfold nextK
          rw [if_pos (by simp)]
        · cases hn
    obtain ⟨x, r, hts, hix, hxt, hk1⟩ := hx
    subst hk1
    have hy : tl[1]? = some (tl[1]'(by rw [htl.out, hts]; simp)) := List.getElem?_eq_getElem _
    have hyk : (tl[1]'(by rw [htl.out, hts]; simp)).k = 4 ↔ r = [] := by
      constructor
      · intro h4
        rcases r with _ | ⟨z, r⟩
        · rfl
        · subst hts
          have e : tl = x :: z :: (r ++ [endTok s.length]) := htl.out
          subst e
          exact absurd h4 (toks_kinds HTS.out z (by simp))
      · rintro rfl
        subst hts
        have e : tl = [x, endTok s.length] := htl.out
        subst e
        rfl
    generalize tl[1]'(by rw [htl.out, hts]; simp) = y at hy hyk
    have HY := Lib.hid hy
    have HRes := Lib.hid (show nameB s = ((n == s) && (y.k == 4)) from by
      rw [HN.out, hts]
      rcases r with _ | ⟨z, r⟩
      · show (isName1 x && (x.t == s)) = _
        rw [hix, hxt, show (y.k == 4) = true by simpa using hyk.2 rfl]
        simp
      · show false = _
        have : ¬ y.k = 4 := fun h => by have := hyk.1 h; cases this
        rw [show (y.k == 4) = false by simpa using this]
        simp)
    have hf := hfld y
    clear hn hts hix hxt hy hyk hfld
    go_wp2_with fail
    (with_reducible refine (name_yes HS1.out HNN.out).mono ?_)
    rintro e w2 ⟨rfl, hg2, hs2⟩
    have HB2 := Lib.hid (show Bl W w2 from Below.grown HB1.out hg2 HB1.out.size (fun j hj => by injection hj with hj; subst hj; exact hbs))
    have HS2 := Lib.hid hs2
    clear hg2 hs2
    obtain ⟨tk, tp, tt, ta, tb, tc⟩ := y
    cases hns : (n == s)
    · have HR2 := Lib.hid (HRes.out.trans (by rw [hns]; try rfl))
      go_wp2
      go_ret
      exact ⟨by rw [HR2.out]; rfl, HB2.out⟩
    · have HR2 := Lib.hid (show nameB s = (tk == 4) from HRes.out.trans (by rw [hns]; try rfl))
      go_wp2_with fail
      (with_reducible refine (tPeek_any HS2.out HY.out).mono ?_)
      rintro e w3 ⟨rfl, hb3⟩
      go_wp2
      go_ret
      exact ⟨by rw [HR2.out]; rfl, HB2.out.call hb3⟩
--END2
theorem ename_any (s : List UInt8) (hs : s.length ≤ 9223372036854775807) (W : World) (hG : Glob W) : Calls Tryz.prog 73 #[S s] W fun e w' => e = .returned (.bool (nameB s)) ∧ Bl W w' := by
  by_cases h : allErr s = 0
  · have hl : s.length ≤ 4000 := by
      unfold allErr at h
      split at h
      · cases h
      · omega
    cases ht : toksO s with
    | none =>
      unfold allErr at h
      rw [if_neg (by omega), if_pos ht] at h
      cases h
    | some ts => exact ename_good s hl ts ht W hG
  · exact ename_bad s hs h W hG

end Go.Proofs.YtepkfkfedmbmnaaGreatDoor

namespace Go.Proofs.YtepkfkfedmbmnaaGreatDoor
open Go.RowKit
set_option maxRecDepth 100000

--BEGIN1
set_option maxHeartbeats 4000000 in
/-- What is not bare may not be. -/
theorem eright_mis {k v1 v2 o u1 u2 k2 o2 : Int} {v3 t n u3 t2 n2 : List UInt8} {a a2 : Option Addr} {m c m2 c2 : Nat} (hB : ∀ w, Calls Tryz.prog 71 #[EV k (v1, v2, v3) t n o (.slice a m c)] w fun e w' => e = .returned (EV k2 (u1, u2, u3) t2 n2 o2 (.slice a2 m2 c2)) ∧ Bl w w')
    (hne : ¬ (u1 = v1 ∧ u2 = v2 ∧ u3 = v3 ∧ t2 = t ∧ n2 = n ∧ o2 = o ∧ m2 = m)) (w : World) : Calls Tryz.prog 48 #[EV k (v1, v2, v3) t n o (.slice a m c)] w fun e w' => e = .returned (.bool false) ∧ Bl w w' := by
  have HB := Lib.hid hB
  clear hB
  by_cases h1 : u1 = v1
  case neg =>
    clear hne
    -- y and x part here
    have hb : (u1 == v1) = false := by simpa using h1
    have hb' : (u1 != v1) = true := by simpa using h1
    clear h1
    go_enter Tryz.func48, Tryz.ntmps48
    go_wp2_with fail
    refine (HB.out _).mono ?_
    rintro e w1 ⟨rfl, hb1⟩
    have hX1 := (hb1.block w.heap.size (by simp)).trans (heap_new w _)
    obtain ⟨⟨e0, e1, e2, e3, e4, e5, e6, e7⟩, -⟩ := eight hX1
    have hlt := (Array.getElem?_eq_some_iff.1 hX1).1
    go_wp2
    go_ret
    exact ⟨rfl, (((Bl.refl w).alloc _).call hb1).alloc _⟩
  subst h1
  by_cases h2 : u2 = v2
  case neg =>
    clear hne
    -- y and x part here
    have hb : (u2 == v2) = false := by simpa using h2
    have hb' : (u2 != v2) = true := by simpa using h2
    clear h2
    go_enter Tryz.func48, Tryz.ntmps48
    go_wp2_with fail
    refine (HB.out _).mono ?_
    rintro e w1 ⟨rfl, hb1⟩
    have hX1 := (hb1.block w.heap.size (by simp)).trans (heap_new w _)
    obtain ⟨⟨e0, e1, e2, e3, e4, e5, e6, e7⟩, -⟩ := eight hX1
    have hlt := (Array.getElem?_eq_some_iff.1 hX1).1
    go_wp2
    go_ret
    exact ⟨rfl, (((Bl.refl w).alloc _).call hb1).alloc _⟩
  subst h2
  by_cases h3 : u3 = v3
  case neg =>
    clear hne
    -- y and x part here
    have hb : (u3 == v3) = false := by simpa using h3
    have hb' : (u3 != v3) = true := by simpa using h3
    clear h3
    go_enter Tryz.func48, Tryz.ntmps48
    go_wp2_with fail
    refine (HB.out _).mono ?_
    rintro e w1 ⟨rfl, hb1⟩
    have hX1 := (hb1.block w.heap.size (by simp)).trans (heap_new w _)
    obtain ⟨⟨e0, e1, e2, e3, e4, e5, e6, e7⟩, -⟩ := eight hX1
    have hlt := (Array.getElem?_eq_some_iff.1 hX1).1
    go_wp2
    go_ret
    exact ⟨rfl, (((Bl.refl w).alloc _).call hb1).alloc _⟩
  subst h3
  by_cases h4 : t2 = t
  case neg =>
    clear hne
    -- y and x part here
    have hb : (t2 == t) = false := by simpa using h4
    have hb' : (t2 != t) = true := by simpa using h4
    clear h4
    go_enter Tryz.func48, Tryz.ntmps48
    go_wp2_with fail
    refine (HB.out _).mono ?_
    rintro e w1 ⟨rfl, hb1⟩
    have hX1 := (hb1.block w.heap.size (by simp)).trans (heap_new w _)
    obtain ⟨⟨e0, e1, e2, e3, e4, e5, e6, e7⟩, -⟩ := eight hX1
    have hlt := (Array.getElem?_eq_some_iff.1 hX1).1
    go_wp2
    go_ret
    exact ⟨rfl, (((Bl.refl w).alloc _).call hb1).alloc _⟩
  subst h4
  by_cases h5 : n2 = n
  case neg =>
    clear hne
    -- y and x part here
    have hb : (n2 == n) = false := by simpa using h5
    have hb' : (n2 != n) = true := by simpa using h5
    clear h5
    go_enter Tryz.func48, Tryz.ntmps48
    go_wp2_with fail
    refine (HB.out _).mono ?_
    rintro e w1 ⟨rfl, hb1⟩
    have hX1 := (hb1.block w.heap.size (by simp)).trans (heap_new w _)
    obtain ⟨⟨e0, e1, e2, e3, e4, e5, e6, e7⟩, -⟩ := eight hX1
    have hlt := (Array.getElem?_eq_some_iff.1 hX1).1
    go_wp2
    go_ret
    exact ⟨rfl, (((Bl.refl w).alloc _).call hb1).alloc _⟩
  subst h5
  by_cases h6 : o2 = o
  case neg =>
    clear hne
    -- y and x part here
    have hb : (o2 == o) = false := by simpa using h6
    have hb' : (o2 != o) = true := by simpa using h6
    clear h6
    go_enter Tryz.func48, Tryz.ntmps48
    go_wp2_with fail
    refine (HB.out _).mono ?_
    rintro e w1 ⟨rfl, hb1⟩
    have hX1 := (hb1.block w.heap.size (by simp)).trans (heap_new w _)
    obtain ⟨⟨e0, e1, e2, e3, e4, e5, e6, e7⟩, -⟩ := eight hX1
    have hlt := (Array.getElem?_eq_some_iff.1 hX1).1
    go_wp2
    go_ret
    exact ⟨rfl, (((Bl.refl w).alloc _).call hb1).alloc _⟩
  subst h6
  have h7 : ¬ (m2 : Int) = (m : Int) := by
    intro h
    exact hne ⟨rfl, rfl, rfl, rfl, rfl, rfl, by omega⟩
  clear hne
  -- y and x part here
  have hb : ((m2 : Int) == (m : Int)) = false := by simpa using h7
  have hb' : ((m2 : Int) != (m : Int)) = true := by simpa using h7
  clear h7
  go_enter Tryz.func48, Tryz.ntmps48
  go_wp2_with fail
  refine (HB.out _).mono ?_
  rintro e w1 ⟨rfl, hb1⟩
  have hX1 := (hb1.block w.heap.size (by simp)).trans (heap_new w _)
  obtain ⟨⟨e0, e1, e2, e3, e4, e5, e6, e7⟩, -⟩ := eight hX1
  have hlt := (Array.getElem?_eq_some_iff.1 hX1).1
  go_wp2
  go_ret
  exact ⟨rfl, (((Bl.refl w).alloc _).call hb1).alloc _⟩
--END1

--BEGIN2
set_option maxHeartbeats 4000000 in
theorem eright_1 {v1 v2 o : Int} {v3 t n : List UInt8} {a a2 : Option Addr} {m c c2 : Nat} (hB : ∀ w, Calls Tryz.prog 71 #[EV 1 (v1, v2, v3) t n o (.slice a m c)] w fun e w' => e = .returned (EV 1 (v1, v2, v3) t n o (.slice a2 m c2)) ∧ Bl w w') (w : World) :
    Calls Tryz.prog 48 #[EV 1 (v1, v2, v3) t n o (.slice a m c)] w fun e w' => e = .returned (.bool ((chk v1 v2 v3 == 0) && (v1 != 2 || decide (0 ≤ v2)))) ∧ Bl w w' := by
  obtain ⟨z, hz⟩ : ∃ z, Hid (chk v1 v2 v3 = z) := ⟨_, rfl⟩
  have HC : Hid (∀ w, Calls Tryz.prog 72 #[V v1 v2 v3] w fun e w' => e = .returned (.int .i64 z) ∧ Bl w w') := fun w => by rw [← hz.out]; exact Check_any v1 v2 v3 w
  rw [hz.out]
  by_cases hz0 : z = 0
  · subst hz0
    by_cases hv : v1 = 2
    · subst hv
      by_cases h0 : 0 ≤ v2
      · have hd : decide (0 ≤ v2) = true := by simpa using h0
        have hn : ¬ v2 < 0 := by omega
        rw [hd]
        have HB := Lib.hid hB
        clear hB
        go_enter Tryz.func48, Tryz.ntmps48
        go_wp2_with fail
        refine (HB.out _).mono ?_
        rintro e w1 ⟨rfl, hb1⟩
        have hX1 := (hb1.block w.heap.size (by simp)).trans (heap_new w _)
        obtain ⟨⟨e0, e1, e2, e3, e4, e5, e6, e7⟩, -⟩ := eight hX1
        have hlt := (Array.getElem?_eq_some_iff.1 hX1).1
        have HBL := Lib.hid (((Bl.refl w).alloc _).call hb1)
        clear hb1
        go_wp2_with fail
        refine (HC.out _).mono ?_
        rintro e w2 ⟨rfl, hb2⟩
        have HB2 := Lib.hid ((HBL.out.alloc _).call hb2)
        have hX2 := (((Bl.refl w1).alloc _).call hb2).block _ hlt |>.trans hX1
        obtain ⟨⟨i0, i1, i2, i3, i4, i5, i6, i7⟩, -⟩ := eight hX2
        clear e0 e1 e2 e3 e4 e5 e6 e7 hb2
        go_wp2
        go_ret
        exact ⟨rfl, HB2.out⟩
      · have hd : decide (0 ≤ v2) = false := by simpa using h0
        rw [hd]
        have HB := Lib.hid hB
        clear hB
        go_enter Tryz.func48, Tryz.ntmps48
        go_wp2_with fail
        refine (HB.out _).mono ?_
        rintro e w1 ⟨rfl, hb1⟩
        have hX1 := (hb1.block w.heap.size (by simp)).trans (heap_new w _)
        obtain ⟨⟨e0, e1, e2, e3, e4, e5, e6, e7⟩, -⟩ := eight hX1
        have hlt := (Array.getElem?_eq_some_iff.1 hX1).1
        have HBL := Lib.hid (((Bl.refl w).alloc _).call hb1)
        clear hb1
        go_wp2_with fail
        refine (HC.out _).mono ?_
        rintro e w2 ⟨rfl, hb2⟩
        have HB2 := Lib.hid ((HBL.out.alloc _).call hb2)
        have hX2 := (((Bl.refl w1).alloc _).call hb2).block _ hlt |>.trans hX1
        obtain ⟨⟨i0, i1, i2, i3, i4, i5, i6, i7⟩, -⟩ := eight hX2
        clear e0 e1 e2 e3 e4 e5 e6 e7 hb2
        go_wp2
        go_ret
        exact ⟨rfl, HB2.out⟩
    · have hv' : (v1 != 2) = true := by simpa using hv
      have hv'' : (v1 == 2) = false := by simpa using hv
      rw [hv', Bool.true_or]
      clear hv
      have HB := Lib.hid hB
      clear hB
      go_enter Tryz.func48, Tryz.ntmps48
      go_wp2_with fail
      refine (HB.out _).mono ?_
      rintro e w1 ⟨rfl, hb1⟩
      have hX1 := (hb1.block w.heap.size (by simp)).trans (heap_new w _)
      obtain ⟨⟨e0, e1, e2, e3, e4, e5, e6, e7⟩, -⟩ := eight hX1
      have hlt := (Array.getElem?_eq_some_iff.1 hX1).1
      have HBL := Lib.hid (((Bl.refl w).alloc _).call hb1)
      clear hb1
      go_wp2_with fail
      refine (HC.out _).mono ?_
      rintro e w2 ⟨rfl, hb2⟩
      have HB2 := Lib.hid ((HBL.out.alloc _).call hb2)
      have hX2 := (((Bl.refl w1).alloc _).call hb2).block _ hlt |>.trans hX1
      obtain ⟨⟨i0, i1, i2, i3, i4, i5, i6, i7⟩, -⟩ := eight hX2
      clear e0 e1 e2 e3 e4 e5 e6 e7 hb2
      go_wp2
      go_ret
      exact ⟨rfl, HB2.out⟩
  · have hz' : (z == 0) = false := by simpa using hz0
    rw [hz', Bool.false_and]
    clear hz0
    have HB := Lib.hid hB
    clear hB
    go_enter Tryz.func48, Tryz.ntmps48
    go_wp2_with fail
    refine (HB.out _).mono ?_
    rintro e w1 ⟨rfl, hb1⟩
    have hX1 := (hb1.block w.heap.size (by simp)).trans (heap_new w _)
    obtain ⟨⟨e0, e1, e2, e3, e4, e5, e6, e7⟩, -⟩ := eight hX1
    have hlt := (Array.getElem?_eq_some_iff.1 hX1).1
    have HBL := Lib.hid (((Bl.refl w).alloc _).call hb1)
    clear hb1
    go_wp2_with fail
    refine (HC.out _).mono ?_
    rintro e w2 ⟨rfl, hb2⟩
    have HB2 := Lib.hid ((HBL.out.alloc _).call hb2)
    go_wp2
    go_ret
    exact ⟨rfl, HB2.out⟩
--END2
--BEGIN3
set_option maxHeartbeats 4000000 in
theorem eright_2 {v1 v2 o : Int} {v3 t n : List UInt8} {a a2 : Option Addr} {m c c2 : Nat} (hlt : t.length ≤ 9223372036854775807) (hln : n.length ≤ 9223372036854775807) (hB : ∀ w, Calls Tryz.prog 71 #[EV 2 (v1, v2, v3) t n o (.slice a m c)] w fun e w' => e = .returned (EV 2 (v1, v2, v3) t n o (.slice a2 m c2)) ∧ Bl w w') (w : World) (hG : Glob w) :
    Calls Tryz.prog 48 #[EV 2 (v1, v2, v3) t n o (.slice a m c)] w fun e w' => e = .returned (.bool (nameB n && (t == [] || nameB t))) ∧ Bl w w' := by
  have HG := Lib.hid hG
  obtain ⟨bn, hbn⟩ : ∃ b, Hid (nameB n = b) := ⟨_, rfl⟩
  obtain ⟨bt, hbt⟩ : ∃ b, Hid (nameB t = b) := ⟨_, rfl⟩
  have HN : Hid (∀ w, Glob w → Calls Tryz.prog 73 #[S n] w fun e w' => e = .returned (.bool bn) ∧ Bl w w') := fun w hG => by rw [← hbn.out]; exact ename_any n hln w hG
  have HT : Hid (∀ w, Glob w → Calls Tryz.prog 73 #[S t] w fun e w' => e = .returned (.bool bt) ∧ Bl w w') := fun w hG => by rw [← hbt.out]; exact ename_any t hlt w hG
  rw [hbn.out, hbt.out]
  clear hG hlt hln
  cases bn
  · rw [Bool.false_and]
    have HB := Lib.hid hB
    clear hB
    go_enter Tryz.func48, Tryz.ntmps48
    go_wp2_with fail
    refine (HB.out _).mono ?_
    rintro e w1 ⟨rfl, hb1⟩
    have hX1 := (hb1.block w.heap.size (by simp)).trans (heap_new w _)
    obtain ⟨⟨e0, e1, e2, e3, e4, e5, e6, e7⟩, -⟩ := eight hX1
    have hlt := (Array.getElem?_eq_some_iff.1 hX1).1
    have HBL := Lib.hid (((Bl.refl w).alloc _).call hb1)
    clear hb1
    go_wp2_with fail
    refine (HN.out _ (HG.out.bl (HBL.out.alloc _))).mono ?_
    rintro e w2 ⟨rfl, hb2⟩
    have HB2 := Lib.hid ((HBL.out.alloc _).call hb2)
    go_wp2
    go_ret
    exact ⟨rfl, HB2.out⟩
  · rw [Bool.true_and]
    by_cases ht : t = []
    · subst ht
      have HB := Lib.hid hB
      clear hB
      go_enter Tryz.func48, Tryz.ntmps48
      go_wp2_with fail
      refine (HB.out _).mono ?_
      rintro e w1 ⟨rfl, hb1⟩
      have hX1 := (hb1.block w.heap.size (by simp)).trans (heap_new w _)
      obtain ⟨⟨e0, e1, e2, e3, e4, e5, e6, e7⟩, -⟩ := eight hX1
      have hlt := (Array.getElem?_eq_some_iff.1 hX1).1
      have HBL := Lib.hid (((Bl.refl w).alloc _).call hb1)
      clear hb1
      go_wp2_with fail
      refine (HN.out _ (HG.out.bl (HBL.out.alloc _))).mono ?_
      rintro e w2 ⟨rfl, hb2⟩
      have HB2 := Lib.hid ((HBL.out.alloc _).call hb2)
      have hX2 := (((Bl.refl w1).alloc _).call hb2).block _ hlt |>.trans hX1
      obtain ⟨⟨i0, i1, i2, i3, i4, i5, i6, i7⟩, -⟩ := eight hX2
      clear e0 e1 e2 e3 e4 e5 e6 e7 hb2
      go_wp2
      go_ret
      exact ⟨rfl, HB2.out⟩
    · have ht' : (t == []) = false := by simpa using ht
      rw [ht', Bool.false_or]
      clear ht
      have HB := Lib.hid hB
      clear hB
      go_enter Tryz.func48, Tryz.ntmps48
      go_wp2_with fail
      refine (HB.out _).mono ?_
      rintro e w1 ⟨rfl, hb1⟩
      have hX1 := (hb1.block w.heap.size (by simp)).trans (heap_new w _)
      obtain ⟨⟨e0, e1, e2, e3, e4, e5, e6, e7⟩, -⟩ := eight hX1
      have hlt := (Array.getElem?_eq_some_iff.1 hX1).1
      have HBL := Lib.hid (((Bl.refl w).alloc _).call hb1)
      clear hb1
      go_wp2_with fail
      refine (HN.out _ (HG.out.bl (HBL.out.alloc _))).mono ?_
      rintro e w2 ⟨rfl, hb2⟩
      have HB2 := Lib.hid ((HBL.out.alloc _).call hb2)
      have hX2 := (((Bl.refl w1).alloc _).call hb2).block _ hlt |>.trans hX1
      obtain ⟨⟨i0, i1, i2, i3, i4, i5, i6, i7⟩, -⟩ := eight hX2
      clear e0 e1 e2 e3 e4 e5 e6 e7 hb2
      go_wp2_with fail
      refine (HT.out _ (HG.out.bl HB2.out)).mono ?_
      rintro e w3 ⟨rfl, hb3⟩
      go_wp2
      go_ret
      exact ⟨rfl, HB2.out.call hb3⟩
--END3
--BEGIN4
set_option maxHeartbeats 4000000 in
theorem eright_3 {v1 v2 o : Int} {v3 t n : List UInt8} {a a2 : Option Addr} {m c c2 : Nat} (hB : ∀ w, Calls Tryz.prog 71 #[EV 3 (v1, v2, v3) t n o (.slice a m c)] w fun e w' => e = .returned (EV 3 (v1, v2, v3) t n o (.slice a2 m c2)) ∧ Bl w w') (w : World) :
    Calls Tryz.prog 48 #[EV 3 (v1, v2, v3) t n o (.slice a m c)] w fun e w' => e = .returned (.bool (decide (1 ≤ o ∧ o ≤ 20) && m == opMany o)) ∧ Bl w w' := by
  by_cases ho : 1 ≤ o ∧ o ≤ 20
  · rw [decide_eq_true ho, Bool.true_and]
    have HO := Lib.hid ho
    obtain ⟨b, hb⟩ : ∃ b, Hid ((m == opMany o) = b) := ⟨_, rfl⟩
    have hbi : ((m : Int) == (opMany o : Int)) = b := by
      rw [← hb.out]
      cases h : (m == opMany o)
      · have : m ≠ opMany o := by simpa using h
        simp; omega
      · have : m = opMany o := by simpa using h
        simp; omega
    rw [hb.out]
    clear ho
    have HB := Lib.hid hB
    clear hB
    go_enter Tryz.func48, Tryz.ntmps48
    go_wp2_with fail
    refine (HB.out _).mono ?_
    rintro e w1 ⟨rfl, hb1⟩
    have hX1 := (hb1.block w.heap.size (by simp)).trans (heap_new w _)
    obtain ⟨⟨e0, e1, e2, e3, e4, e5, e6, e7⟩, -⟩ := eight hX1
    have hlt := (Array.getElem?_eq_some_iff.1 hX1).1
    have HBL := Lib.hid (((Bl.refl w).alloc _).call hb1)
    clear hb1
    go_wp2_with fail
    (with_reducible refine (sInfo_in o HO.out _).mono ?_)
    rintro e w2 ⟨rfl, hb2⟩
    have HB2 := Lib.hid ((HBL.out.alloc _).call hb2)
    have hX2 := (((Bl.refl w1).alloc _).call hb2).block _ hlt |>.trans hX1
    have hlt2 := (Array.getElem?_eq_some_iff.1 hX2).1
    obtain ⟨⟨i0, i1, i2, i3, i4, i5, i6, i7⟩, -⟩ := eight hX2
    clear e0 e1 e2 e3 e4 e5 e6 e7 hb2
    go_wp2
    go_ret
    exact ⟨rfl, HB2.out.alloc _⟩
  · rw [decide_eq_false ho, Bool.false_and]
    have HO := Lib.hid ho
    clear ho
    have HB := Lib.hid hB
    clear hB
    go_enter Tryz.func48, Tryz.ntmps48
    go_wp2_with fail
    refine (HB.out _).mono ?_
    rintro e w1 ⟨rfl, hb1⟩
    have hX1 := (hb1.block w.heap.size (by simp)).trans (heap_new w _)
    obtain ⟨⟨e0, e1, e2, e3, e4, e5, e6, e7⟩, -⟩ := eight hX1
    have hlt := (Array.getElem?_eq_some_iff.1 hX1).1
    have HBL := Lib.hid (((Bl.refl w).alloc _).call hb1)
    clear hb1
    go_wp2_with fail
    (with_reducible refine (sInfo_out o HO.out _).mono ?_)
    rintro e w2 ⟨rfl, hb2⟩
    have HB2 := Lib.hid ((HBL.out.alloc _).call hb2)
    go_wp2
    go_ret
    exact ⟨rfl, HB2.out.alloc _⟩
set_option maxHeartbeats 4000000 in
theorem eright_4 {v1 v2 o : Int} {v3 t n : List UInt8} {a a2 : Option Addr} {m c c2 : Nat} (hB : ∀ w, Calls Tryz.prog 71 #[EV 4 (v1, v2, v3) t n o (.slice a m c)] w fun e w' => e = .returned (EV 4 (v1, v2, v3) t n o (.slice a2 m c2)) ∧ Bl w w') (w : World) :
    Calls Tryz.prog 48 #[EV 4 (v1, v2, v3) t n o (.slice a m c)] w fun e w' => e = .returned (.bool (decide (0 < m))) ∧ Bl w w' := by
  have hd : decide (0 < m) = decide ((0 : Int) < (m : Int)) := by simp
  rw [hd]
  have HB := Lib.hid hB
  clear hB
  go_enter Tryz.func48, Tryz.ntmps48
  go_wp2_with fail
  refine (HB.out _).mono ?_
  rintro e w1 ⟨rfl, hb1⟩
  have hX1 := (hb1.block w.heap.size (by simp)).trans (heap_new w _)
  obtain ⟨⟨e0, e1, e2, e3, e4, e5, e6, e7⟩, -⟩ := eight hX1
  have hlt := (Array.getElem?_eq_some_iff.1 hX1).1
  have HBL := Lib.hid (((Bl.refl w).alloc _).call hb1)
  clear hb1
  go_wp2
  go_ret
  exact ⟨rfl, HBL.out.alloc _⟩
set_option maxHeartbeats 4000000 in
theorem eright_x {k v1 v2 o : Int} {v3 t n : List UInt8} {a a2 : Option Addr} {m c c2 : Nat} (hk : k ≠ 1 ∧ k ≠ 2 ∧ k ≠ 3 ∧ k ≠ 4 ∧ k ≠ 5) (hB : ∀ w, Calls Tryz.prog 71 #[EV k (v1, v2, v3) t n o (.slice a m c)] w fun e w' => e = .returned (EV k (v1, v2, v3) t n o (.slice a2 m c2)) ∧ Bl w w') (w : World) :
    Calls Tryz.prog 48 #[EV k (v1, v2, v3) t n o (.slice a m c)] w fun e w' => e = .returned (.bool false) ∧ Bl w w' := by
  obtain ⟨h1, h2, h3, h4, h5⟩ := hk
  have b1 : (k == 1) = false := by simpa using h1
  have b2 : (k == 2) = false := by simpa using h2
  have b3 : (k == 3) = false := by simpa using h3
  have b4 : (k == 4) = false := by simpa using h4
  have b5 : (k == 5) = false := by simpa using h5
  clear h1 h2 h3 h4 h5
  have HB := Lib.hid hB
  clear hB
  go_enter Tryz.func48, Tryz.ntmps48
  go_wp2_with fail
  refine (HB.out _).mono ?_
  rintro e w1 ⟨rfl, hb1⟩
  have hX1 := (hb1.block w.heap.size (by simp)).trans (heap_new w _)
  obtain ⟨⟨e0, e1, e2, e3, e4, e5, e6, e7⟩, -⟩ := eight hX1
  have hlt := (Array.getElem?_eq_some_iff.1 hX1).1
  have HBL := Lib.hid (((Bl.refl w).alloc _).call hb1)
  clear hb1
  go_wp2
  go_ret
  exact ⟨rfl, HBL.out.alloc _⟩
--END4

end Go.Proofs.YtepkfkfedmbmnaaGreatDoor

namespace Go.Proofs.YtepkfkfedmbmnaaGreatDoor
open Go.RowKit
set_option maxRecDepth 100000

--BEGIN1
set_option maxHeartbeats 4000000 in
theorem eright_5a {v1 v2 o : Int} {v3 t n : List UInt8} {a a2 : Option Addr} {m c c2 : Nat} (hn : sumNames.contains n = false) (hB : ∀ w, Calls Tryz.prog 71 #[EV 5 (v1, v2, v3) t n o (.slice a m c)] w fun e w' => e = .returned (EV 5 (v1, v2, v3) t n o (.slice a2 m c2)) ∧ Bl w w') (w : World) :
    Calls Tryz.prog 48 #[EV 5 (v1, v2, v3) t n o (.slice a m c)] w fun e w' => e = .returned (.bool false) ∧ Bl w w' := by
  have HB := Lib.hid hB
  clear hB
  go_enter Tryz.func48, Tryz.ntmps48
  go_wp2_with fail
  refine (HB.out _).mono ?_
  rintro e w1 ⟨rfl, hb1⟩
  have hX1 := (hb1.block w.heap.size (by simp)).trans (heap_new w _)
  obtain ⟨⟨e0, e1, e2, e3, e4, e5, e6, e7⟩, -⟩ := eight hX1
  have hlt := (Array.getElem?_eq_some_iff.1 hX1).1
  have HBL := Lib.hid (((Bl.refl w).alloc _).call hb1)
  clear hb1
  go_wp2_with fail
  have hX2 := ((Bl.refl w1).alloc (.cells #[.int .i64 5, .int .i64 v1, .int .i64 v2, S v3, S t, S n, .int .i64 o, .slice a2 m c2] 30)).block _ hlt |>.trans hX1
  have HX2 := Lib.hid hX2
  have HB2 := Lib.hid (HBL.out.alloc (.cells #[.int .i64 5, .int .i64 v1, .int .i64 v2, S v3, S t, S n, .int .i64 o, .slice a2 m c2] 30))
  clear e0 e1 e2 e3 e4 e5 e6 e7 hX1 hX2
  generalize w1.alloc (.cells #[.int .i64 5, .int .i64 v1, .int .i64 v2, S v3, S t, S n, .int .i64 o, .slice a2 m c2] 30) = w2 at *
  refine wp_region_noPanic (wp_region_sd (fun B => B.heap[w.heap.size]? = some (.cells #[.int .i64 5, .int .i64 v1, .int .i64 v2, S v3, S t, S n, .int .i64 o, .slice a m c] 30 (0, 0))) ((.take 1 (.take 2 (.one 0 (.one 3 (.take 4 (.take 5 (.take 6 (.take 7 (.take 8 (.take 9 (.take 10 (.take 11 (.take 12 (.take 13 (.take 14 (.take 15 (.take 16 (.take 17 (.take 18 (.take 19 (.take 20 (.take 21 (.take 22 (.take 23 (.take 24 .done)))))))))))))))))))))))))) (by kernel_rfl) (by kernel_rfl) (by kernel_rfl) (fun _ _ _ _ _ h => h) (HX2.out) ?_) -- wp_region_sc 
  intro wd HWD hHeld
  refine sc_take' rfl (by rfl) (by intro w hSw; (try dsimp only at hSw); obtain ⟨⟨e0, e1, e2, e3, e4, e5, e6, e7⟩, -⟩ := eight hSw; go_simp; (try (first | with_reducible rfl | rfl))) ?_; (try simp only [Act.put, List.setIfInBounds_toArray, List.set_cons_zero, List.set_cons_succ])
  refine sc_take' rfl (by rfl) (by intro w hSw; (try dsimp only at hSw); obtain ⟨⟨e0, e1, e2, e3, e4, e5, e6, e7⟩, -⟩ := eight hSw; go_simp; (try (first | with_reducible rfl | rfl))) ?_; (try simp only [Act.put, List.setIfInBounds_toArray, List.set_cons_zero, List.set_cons_succ])
  refine sc_call' rfl (fun K hK => ?_); go_simp; ((with_reducible refine (erows_any _).mono ?_); rintro e w3 ⟨rfl, rfl⟩); go_wp2_with fail; refine hK.out _ _ ((by first | exact hHeld | exact (heap_old _ _ (Array.getElem?_eq_some_iff.1 hHeld).1).trans hHeld)) (fun hHeld2 => ?_); clear hHeld hK K; have hHeld := hHeld2; clear hHeld2
  refine sc_call' rfl (fun K hK => ?_); go_simp; (refine (contains_rows (heap_new wd _) n).mono ?_; rintro e w4 ⟨rfl, rfl⟩; rw [hn]); go_wp2_with fail; refine hK.out _ _ ((by first | exact hHeld | exact (heap_old _ _ (Array.getElem?_eq_some_iff.1 hHeld).1).trans hHeld)) (fun hHeld2 => ?_); clear hHeld hK K; have hHeld := hHeld2; clear hHeld2
  refine sc_take' rfl (by rfl) (by intro w hSw; (try dsimp only at hSw); obtain ⟨⟨e0, e1, e2, e3, e4, e5, e6, e7⟩, -⟩ := eight hSw; go_simp; (try (first | with_reducible rfl | rfl))) ?_; (try simp only [Act.put, List.setIfInBounds_toArray, List.set_cons_zero, List.set_cons_succ])
  refine sc_skip' rfl (by rfl) ?_; (try simp only [Act.put, List.setIfInBounds_toArray, List.set_cons_zero, List.set_cons_succ])
  refine sc_skip' rfl (by rfl) ?_; (try simp only [Act.put, List.setIfInBounds_toArray, List.set_cons_zero, List.set_cons_succ])
  refine sc_skip' rfl (by rfl) ?_; (try simp only [Act.put, List.setIfInBounds_toArray, List.set_cons_zero, List.set_cons_succ])
  refine sc_skip' rfl (by rfl) ?_; (try simp only [Act.put, List.setIfInBounds_toArray, List.set_cons_zero, List.set_cons_succ])
  refine sc_skip' rfl (by rfl) ?_; (try simp only [Act.put, List.setIfInBounds_toArray, List.set_cons_zero, List.set_cons_succ])
  refine sc_skip' rfl (by rfl) ?_; (try simp only [Act.put, List.setIfInBounds_toArray, List.set_cons_zero, List.set_cons_succ])
  refine sc_skip' rfl (by rfl) ?_; (try simp only [Act.put, List.setIfInBounds_toArray, List.set_cons_zero, List.set_cons_succ])
  refine sc_skip' rfl (by rfl) ?_; (try simp only [Act.put, List.setIfInBounds_toArray, List.set_cons_zero, List.set_cons_succ])
  refine sc_skip' rfl (by rfl) ?_; (try simp only [Act.put, List.setIfInBounds_toArray, List.set_cons_zero, List.set_cons_succ])
  refine sc_skip' rfl (by rfl) ?_; (try simp only [Act.put, List.setIfInBounds_toArray, List.set_cons_zero, List.set_cons_succ])
  refine sc_skip' rfl (by rfl) ?_; (try simp only [Act.put, List.setIfInBounds_toArray, List.set_cons_zero, List.set_cons_succ])
  refine sc_skip' rfl (by rfl) ?_; (try simp only [Act.put, List.setIfInBounds_toArray, List.set_cons_zero, List.set_cons_succ])
  refine sc_skip' rfl (by rfl) ?_; (try simp only [Act.put, List.setIfInBounds_toArray, List.set_cons_zero, List.set_cons_succ])
  refine sc_skip' rfl (by rfl) ?_; (try simp only [Act.put, List.setIfInBounds_toArray, List.set_cons_zero, List.set_cons_succ])
  refine sc_skip' rfl (by rfl) ?_; (try simp only [Act.put, List.setIfInBounds_toArray, List.set_cons_zero, List.set_cons_succ])
  refine sc_skip' rfl (by rfl) ?_; (try simp only [Act.put, List.setIfInBounds_toArray, List.set_cons_zero, List.set_cons_succ])
  refine sc_skip' rfl (by rfl) ?_; (try simp only [Act.put, List.setIfInBounds_toArray, List.set_cons_zero, List.set_cons_succ])
  refine sc_skip' rfl (by rfl) ?_; (try simp only [Act.put, List.setIfInBounds_toArray, List.set_cons_zero, List.set_cons_succ])
  refine sc_take' rfl (by rfl) (by intro w hSw; (try dsimp only at hSw); obtain ⟨⟨e0, e1, e2, e3, e4, e5, e6, e7⟩, -⟩ := eight hSw; go_simp; (try (first | with_reducible rfl | rfl))) ?_; (try simp only [Act.put, List.setIfInBounds_toArray, List.set_cons_zero, List.set_cons_succ])
  refine sc_take' rfl (by rfl) (by intro w hSw; (try dsimp only at hSw); obtain ⟨⟨e0, e1, e2, e3, e4, e5, e6, e7⟩, -⟩ := eight hSw; go_simp; (try (first | with_reducible rfl | rfl))) ?_; (try simp only [Act.put, List.setIfInBounds_toArray, List.set_cons_zero, List.set_cons_succ])
  refine sc_nil (NoPanic.normal ?_)
  go_wp2
  go_ret
  exact ⟨rfl, (HB2.out.call HWD.out).alloc _⟩
--END1

--BEGIN2
set_option maxHeartbeats 4000000 in
theorem eright_5b {v1 v2 o : Int} {v3 t n : List UInt8} {a a2 : Option Addr} {c c2 : Nat} (hn : sumNames.contains n = true) (hB : ∀ w, Calls Tryz.prog 71 #[EV 5 (v1, v2, v3) t n o (.slice a 1 c)] w fun e w' => e = .returned (EV 5 (v1, v2, v3) t n o (.slice a2 1 c2)) ∧ Bl w w') (w : World) :
    Calls Tryz.prog 48 #[EV 5 (v1, v2, v3) t n o (.slice a 1 c)] w fun e w' => e = .returned (.bool true) ∧ Bl w w' := by
  have HB := Lib.hid hB
  clear hB
  go_enter Tryz.func48, Tryz.ntmps48
  go_wp2_with fail
  refine (HB.out _).mono ?_
  rintro e w1 ⟨rfl, hb1⟩
  have hX1 := (hb1.block w.heap.size (by simp)).trans (heap_new w _)
  obtain ⟨⟨e0, e1, e2, e3, e4, e5, e6, e7⟩, -⟩ := eight hX1
  have hlt := (Array.getElem?_eq_some_iff.1 hX1).1
  have HBL := Lib.hid (((Bl.refl w).alloc _).call hb1)
  clear hb1
  go_wp2_with fail
  have hX2 := ((Bl.refl w1).alloc (.cells #[.int .i64 5, .int .i64 v1, .int .i64 v2, S v3, S t, S n, .int .i64 o, .slice a2 1 c2] 30)).block _ hlt |>.trans hX1
  have HX2 := Lib.hid hX2
  have HB2 := Lib.hid (HBL.out.alloc (.cells #[.int .i64 5, .int .i64 v1, .int .i64 v2, S v3, S t, S n, .int .i64 o, .slice a2 1 c2] 30))
  clear e0 e1 e2 e3 e4 e5 e6 e7 hX1 hX2
  generalize w1.alloc (.cells #[.int .i64 5, .int .i64 v1, .int .i64 v2, S v3, S t, S n, .int .i64 o, .slice a2 1 c2] 30) = w2 at *
  refine wp_region_noPanic (wp_region_sd (fun B => B.heap[w.heap.size]? = some (.cells #[.int .i64 5, .int .i64 v1, .int .i64 v2, S v3, S t, S n, .int .i64 o, .slice a 1 c] 30 (0, 0))) ((.take 1 (.take 2 (.one 0 (.one 3 (.take 4 (.take 5 (.take 6 (.one 7 (.take 8 (.take 9 (.take 10 (.take 11 (.take 12 (.take 13 (.take 14 (.take 15 (.take 16 (.take 17 (.take 18 (.take 19 (.take 20 (.take 21 (.take 22 (.take 23 (.take 24 .done)))))))))))))))))))))))))) (by kernel_rfl) (by kernel_rfl) (by kernel_rfl) (fun _ _ _ _ _ h => h) (HX2.out) ?_) -- wp_region_sc 
  intro wd HWD hHeld
  refine sc_take' rfl (by rfl) (by intro w hSw; (try dsimp only at hSw); obtain ⟨⟨e0, e1, e2, e3, e4, e5, e6, e7⟩, -⟩ := eight hSw; go_simp; (try (first | with_reducible rfl | rfl))) ?_; (try simp only [Act.put, List.setIfInBounds_toArray, List.set_cons_zero, List.set_cons_succ])
  refine sc_take' rfl (by rfl) (by intro w hSw; (try dsimp only at hSw); obtain ⟨⟨e0, e1, e2, e3, e4, e5, e6, e7⟩, -⟩ := eight hSw; go_simp; (try (first | with_reducible rfl | rfl))) ?_; (try simp only [Act.put, List.setIfInBounds_toArray, List.set_cons_zero, List.set_cons_succ])
  refine sc_call' rfl (fun K hK => ?_); go_simp; ((with_reducible refine (erows_any _).mono ?_); rintro e w3 ⟨rfl, rfl⟩); go_wp2_with fail; refine hK.out _ _ ((by first | exact hHeld | exact (heap_old _ _ (Array.getElem?_eq_some_iff.1 hHeld).1).trans hHeld)) (fun hHeld2 => ?_); clear hHeld hK K; have hHeld := hHeld2; clear hHeld2
  refine sc_call' rfl (fun K hK => ?_); go_simp; (refine (contains_rows (heap_new wd _) n).mono ?_; rintro e w4 ⟨rfl, rfl⟩; rw [hn]); go_wp2_with fail; refine hK.out _ _ ((by first | exact hHeld | exact (heap_old _ _ (Array.getElem?_eq_some_iff.1 hHeld).1).trans hHeld)) (fun hHeld2 => ?_); clear hHeld hK K; have hHeld := hHeld2; clear hHeld2
  refine sc_take' rfl (by rfl) (by intro w hSw; (try dsimp only at hSw); obtain ⟨⟨e0, e1, e2, e3, e4, e5, e6, e7⟩, -⟩ := eight hSw; go_simp; (try (first | with_reducible rfl | rfl))) ?_; (try simp only [Act.put, List.setIfInBounds_toArray, List.set_cons_zero, List.set_cons_succ])
  refine sc_take' rfl (by rfl) (by intro w hSw; (try dsimp only at hSw); obtain ⟨⟨e0, e1, e2, e3, e4, e5, e6, e7⟩, -⟩ := eight hSw; go_simp; (try (first | with_reducible rfl | rfl))) ?_; (try simp only [Act.put, List.setIfInBounds_toArray, List.set_cons_zero, List.set_cons_succ])
  refine sc_take' rfl (by rfl) (by intro w hSw; (try dsimp only at hSw); obtain ⟨⟨e0, e1, e2, e3, e4, e5, e6, e7⟩, -⟩ := eight hSw; go_simp; (try (first | with_reducible rfl | rfl))) ?_; (try simp only [Act.put, List.setIfInBounds_toArray, List.set_cons_zero, List.set_cons_succ])
  refine sc_call' rfl (fun K hK => ?_); go_simp; refine hK.out _ _ (hHeld) (fun hHeld2 => ?_); clear hHeld hK K; have hHeld := hHeld2; clear hHeld2
  refine sc_take' rfl (by rfl) (by intro w hSw; (try dsimp only at hSw); obtain ⟨⟨e0, e1, e2, e3, e4, e5, e6, e7⟩, -⟩ := eight hSw; go_simp; (try (first | with_reducible rfl | rfl))) ?_; (try simp only [Act.put, List.setIfInBounds_toArray, List.set_cons_zero, List.set_cons_succ])
  refine sc_take' rfl (by rfl) (by intro w hSw; (try dsimp only at hSw); obtain ⟨⟨e0, e1, e2, e3, e4, e5, e6, e7⟩, -⟩ := eight hSw; go_simp; (try (first | with_reducible rfl | rfl))) ?_; (try simp only [Act.put, List.setIfInBounds_toArray, List.set_cons_zero, List.set_cons_succ])
  refine sc_skip' rfl (by rfl) ?_; (try simp only [Act.put, List.setIfInBounds_toArray, List.set_cons_zero, List.set_cons_succ])
  refine sc_skip' rfl (by rfl) ?_; (try simp only [Act.put, List.setIfInBounds_toArray, List.set_cons_zero, List.set_cons_succ])
  refine sc_skip' rfl (by rfl) ?_; (try simp only [Act.put, List.setIfInBounds_toArray, List.set_cons_zero, List.set_cons_succ])
  refine sc_skip' rfl (by rfl) ?_; (try simp only [Act.put, List.setIfInBounds_toArray, List.set_cons_zero, List.set_cons_succ])
  refine sc_skip' rfl (by rfl) ?_; (try simp only [Act.put, List.setIfInBounds_toArray, List.set_cons_zero, List.set_cons_succ])
  refine sc_skip' rfl (by rfl) ?_; (try simp only [Act.put, List.setIfInBounds_toArray, List.set_cons_zero, List.set_cons_succ])
  refine sc_skip' rfl (by rfl) ?_; (try simp only [Act.put, List.setIfInBounds_toArray, List.set_cons_zero, List.set_cons_succ])
  refine sc_skip' rfl (by rfl) ?_; (try simp only [Act.put, List.setIfInBounds_toArray, List.set_cons_zero, List.set_cons_succ])
  refine sc_skip' rfl (by rfl) ?_; (try simp only [Act.put, List.setIfInBounds_toArray, List.set_cons_zero, List.set_cons_succ])
  refine sc_skip' rfl (by rfl) ?_; (try simp only [Act.put, List.setIfInBounds_toArray, List.set_cons_zero, List.set_cons_succ])
  refine sc_skip' rfl (by rfl) ?_; (try simp only [Act.put, List.setIfInBounds_toArray, List.set_cons_zero, List.set_cons_succ])
  refine sc_skip' rfl (by rfl) ?_; (try simp only [Act.put, List.setIfInBounds_toArray, List.set_cons_zero, List.set_cons_succ])
  refine sc_take' rfl (by rfl) (by intro w hSw; (try dsimp only at hSw); obtain ⟨⟨e0, e1, e2, e3, e4, e5, e6, e7⟩, -⟩ := eight hSw; go_simp; (try (first | with_reducible rfl | rfl))) ?_; (try simp only [Act.put, List.setIfInBounds_toArray, List.set_cons_zero, List.set_cons_succ])
  refine sc_take' rfl (by rfl) (by intro w hSw; (try dsimp only at hSw); obtain ⟨⟨e0, e1, e2, e3, e4, e5, e6, e7⟩, -⟩ := eight hSw; go_simp; (try (first | with_reducible rfl | rfl))) ?_; (try simp only [Act.put, List.setIfInBounds_toArray, List.set_cons_zero, List.set_cons_succ])
  refine sc_take' rfl (by rfl) (by intro w hSw; (try dsimp only at hSw); obtain ⟨⟨e0, e1, e2, e3, e4, e5, e6, e7⟩, -⟩ := eight hSw; go_simp; (try (first | with_reducible rfl | rfl))) ?_; (try simp only [Act.put, List.setIfInBounds_toArray, List.set_cons_zero, List.set_cons_succ])
  refine sc_nil (NoPanic.normal ?_)
  go_wp2
  go_ret
  exact ⟨rfl, (HB2.out.call HWD.out).alloc _⟩

set_option maxHeartbeats 4000000 in
theorem eright_5d {v1 v2 o : Int} {v3 t n : List UInt8} {a a2 : Option Addr} {m c c2 : Nat} (hn : sumNames.contains n = true) (hB : ∀ w, Calls Tryz.prog 71 #[EV 5 (v1, v2, v3) t n o (.slice a (m + 2) c)] w fun e w' => e = .returned (EV 5 (v1, v2, v3) t n o (.slice a2 (m + 2) c2)) ∧ Bl w w') (w : World) :
    Calls Tryz.prog 48 #[EV 5 (v1, v2, v3) t n o (.slice a (m + 2) c)] w fun e w' => e = .returned (.bool false) ∧ Bl w w' := by
  have HB := Lib.hid hB
  clear hB
  go_enter Tryz.func48, Tryz.ntmps48
  go_wp2_with fail
  refine (HB.out _).mono ?_
  rintro e w1 ⟨rfl, hb1⟩
  have hX1 := (hb1.block w.heap.size (by simp)).trans (heap_new w _)
  obtain ⟨⟨e0, e1, e2, e3, e4, e5, e6, e7⟩, -⟩ := eight hX1
  have hlt := (Array.getElem?_eq_some_iff.1 hX1).1
  have HBL := Lib.hid (((Bl.refl w).alloc _).call hb1)
  clear hb1
  go_wp2_with fail
  have hX2 := ((Bl.refl w1).alloc (.cells #[.int .i64 5, .int .i64 v1, .int .i64 v2, S v3, S t, S n, .int .i64 o, .slice a2 (m + 2) c2] 30)).block _ hlt |>.trans hX1
  have HX2 := Lib.hid hX2
  have HB2 := Lib.hid (HBL.out.alloc (.cells #[.int .i64 5, .int .i64 v1, .int .i64 v2, S v3, S t, S n, .int .i64 o, .slice a2 (m + 2) c2] 30))
  clear e0 e1 e2 e3 e4 e5 e6 e7 hX1 hX2
  generalize w1.alloc (.cells #[.int .i64 5, .int .i64 v1, .int .i64 v2, S v3, S t, S n, .int .i64 o, .slice a2 (m + 2) c2] 30) = w2 at *
  refine wp_region_noPanic (wp_region_sd (fun B => B.heap[w.heap.size]? = some (.cells #[.int .i64 5, .int .i64 v1, .int .i64 v2, S v3, S t, S n, .int .i64 o, .slice a (m + 2) c] 30 (0, 0))) ((.take 1 (.take 2 (.one 0 (.one 3 (.take 4 (.take 5 (.take 6 (.one 7 (.take 8 (.take 9 (.take 10 (.take 11 (.one 12 (.take 13 (.take 14 (.take 15 (.take 16 (.take 17 (.take 18 (.take 19 (.take 20 (.take 21 (.take 22 (.take 23 (.take 24 .done)))))))))))))))))))))))))) (by kernel_rfl) (by kernel_rfl) (by kernel_rfl) (fun _ _ _ _ _ h => h) (HX2.out) ?_) -- wp_region_sc 
  intro wd HWD hHeld
  refine sc_take' rfl (by rfl) (by intro w hSw; (try dsimp only at hSw); obtain ⟨⟨e0, e1, e2, e3, e4, e5, e6, e7⟩, -⟩ := eight hSw; go_simp; (try (first | with_reducible rfl | rfl))) ?_; (try simp only [Act.put, List.setIfInBounds_toArray, List.set_cons_zero, List.set_cons_succ])
  refine sc_take' rfl (by rfl) (by intro w hSw; (try dsimp only at hSw); obtain ⟨⟨e0, e1, e2, e3, e4, e5, e6, e7⟩, -⟩ := eight hSw; go_simp; (try (first | with_reducible rfl | rfl))) ?_; (try simp only [Act.put, List.setIfInBounds_toArray, List.set_cons_zero, List.set_cons_succ])
  refine sc_call' rfl (fun K hK => ?_); go_simp; ((with_reducible refine (erows_any _).mono ?_); rintro e w3 ⟨rfl, rfl⟩); go_wp2_with fail; refine hK.out _ _ ((by first | exact hHeld | exact (heap_old _ _ (Array.getElem?_eq_some_iff.1 hHeld).1).trans hHeld)) (fun hHeld2 => ?_); clear hHeld hK K; have hHeld := hHeld2; clear hHeld2
  refine sc_call' rfl (fun K hK => ?_); go_simp; (refine (contains_rows (heap_new wd _) n).mono ?_; rintro e w4 ⟨rfl, rfl⟩; rw [hn]); go_wp2_with fail; refine hK.out _ _ ((by first | exact hHeld | exact (heap_old _ _ (Array.getElem?_eq_some_iff.1 hHeld).1).trans hHeld)) (fun hHeld2 => ?_); clear hHeld hK K; have hHeld := hHeld2; clear hHeld2
  refine sc_take' rfl (by rfl) (by intro w hSw; (try dsimp only at hSw); obtain ⟨⟨e0, e1, e2, e3, e4, e5, e6, e7⟩, -⟩ := eight hSw; go_simp; (try (first | with_reducible rfl | rfl))) ?_; (try simp only [Act.put, List.setIfInBounds_toArray, List.set_cons_zero, List.set_cons_succ])
  refine sc_take' rfl (by rfl) (by intro w hSw; (try dsimp only at hSw); obtain ⟨⟨e0, e1, e2, e3, e4, e5, e6, e7⟩, -⟩ := eight hSw; go_simp; (try (first | with_reducible rfl | rfl))) ?_; (try simp only [Act.put, List.setIfInBounds_toArray, List.set_cons_zero, List.set_cons_succ])
  refine sc_take' rfl (by rfl) (by intro w hSw; (try dsimp only at hSw); obtain ⟨⟨e0, e1, e2, e3, e4, e5, e6, e7⟩, -⟩ := eight hSw; go_simp; (try (first | with_reducible rfl | rfl))) ?_; (try simp only [Act.put, List.setIfInBounds_toArray, List.set_cons_zero, List.set_cons_succ])
  refine sc_call' rfl (fun K hK => ?_); go_simp; refine hK.out _ _ (hHeld) (fun hHeld2 => ?_); clear hHeld hK K; have hHeld := hHeld2; clear hHeld2
  refine sc_take' rfl (by rfl) (by intro w hSw; (try dsimp only at hSw); obtain ⟨⟨e0, e1, e2, e3, e4, e5, e6, e7⟩, -⟩ := eight hSw; go_simp; (try (first | with_reducible rfl | rfl))) ?_; (try simp only [Act.put, List.setIfInBounds_toArray, List.set_cons_zero, List.set_cons_succ])
  refine sc_take' rfl (by rfl) (by intro w hSw; (try dsimp only at hSw); obtain ⟨⟨e0, e1, e2, e3, e4, e5, e6, e7⟩, -⟩ := eight hSw; go_simp; (try (first | with_reducible rfl | rfl))) ?_; (try simp only [Act.put, List.setIfInBounds_toArray, List.set_cons_zero, List.set_cons_succ])
  refine sc_take' rfl (by rfl) (by intro w hSw; (try dsimp only at hSw); obtain ⟨⟨e0, e1, e2, e3, e4, e5, e6, e7⟩, -⟩ := eight hSw; go_simp; (try (first | with_reducible rfl | rfl))) ?_; (try simp only [Act.put, List.setIfInBounds_toArray, List.set_cons_zero, List.set_cons_succ])
  refine sc_take' rfl (by rfl) (by intro w hSw; (try dsimp only at hSw); obtain ⟨⟨e0, e1, e2, e3, e4, e5, e6, e7⟩, -⟩ := eight hSw; go_simp; (try (first | with_reducible rfl | rfl))) ?_; (try simp only [Act.put, List.setIfInBounds_toArray, List.set_cons_zero, List.set_cons_succ])
  refine sc_call' rfl (fun K hK => ?_); go_simp; refine hK.out _ _ (hHeld) (fun hHeld2 => ?_); clear hHeld hK K; have hHeld := hHeld2; clear hHeld2
  refine sc_take' rfl (by rfl) (by intro w hSw; (try dsimp only at hSw); obtain ⟨⟨e0, e1, e2, e3, e4, e5, e6, e7⟩, -⟩ := eight hSw; go_simp; (try (first | with_reducible rfl | rfl))) ?_; (try simp only [Act.put, List.setIfInBounds_toArray, List.set_cons_zero, List.set_cons_succ])
  refine sc_take' rfl (by rfl) (by intro w hSw; (try dsimp only at hSw); obtain ⟨⟨e0, e1, e2, e3, e4, e5, e6, e7⟩, -⟩ := eight hSw; go_simp; (try (first | with_reducible rfl | rfl))) ?_; (try simp only [Act.put, List.setIfInBounds_toArray, List.set_cons_zero, List.set_cons_succ])
  refine sc_skip' rfl (by rfl) ?_; (try simp only [Act.put, List.setIfInBounds_toArray, List.set_cons_zero, List.set_cons_succ])
  refine sc_skip' rfl (by rfl) ?_; (try simp only [Act.put, List.setIfInBounds_toArray, List.set_cons_zero, List.set_cons_succ])
  refine sc_skip' rfl (by rfl) ?_; (try simp only [Act.put, List.setIfInBounds_toArray, List.set_cons_zero, List.set_cons_succ])
  refine sc_skip' rfl (by rfl) ?_; (try simp only [Act.put, List.setIfInBounds_toArray, List.set_cons_zero, List.set_cons_succ])
  refine sc_skip' rfl (by rfl) ?_; (try simp only [Act.put, List.setIfInBounds_toArray, List.set_cons_zero, List.set_cons_succ])
  refine sc_skip' rfl (by rfl) ?_; (try simp only [Act.put, List.setIfInBounds_toArray, List.set_cons_zero, List.set_cons_succ])
  refine sc_take' rfl (by rfl) (by intro w hSw; (try dsimp only at hSw); obtain ⟨⟨e0, e1, e2, e3, e4, e5, e6, e7⟩, -⟩ := eight hSw; go_simp; (try (first | with_reducible rfl | rfl))) ?_; (try simp only [Act.put, List.setIfInBounds_toArray, List.set_cons_zero, List.set_cons_succ])
  refine sc_take' rfl (by rfl) (by intro w hSw; (try dsimp only at hSw); obtain ⟨⟨e0, e1, e2, e3, e4, e5, e6, e7⟩, -⟩ := eight hSw; go_simp; (try (first | with_reducible rfl | rfl))) ?_; (try simp only [Act.put, List.setIfInBounds_toArray, List.set_cons_zero, List.set_cons_succ])
  refine sc_take' rfl (by rfl) (by intro w hSw; (try dsimp only at hSw); obtain ⟨⟨e0, e1, e2, e3, e4, e5, e6, e7⟩, -⟩ := eight hSw; go_simp; (try (first | with_reducible rfl | rfl))) ?_; (try simp only [Act.put, List.setIfInBounds_toArray, List.set_cons_zero, List.set_cons_succ])
  refine sc_take' rfl (by rfl) (by intro w hSw; (try dsimp only at hSw); obtain ⟨⟨e0, e1, e2, e3, e4, e5, e6, e7⟩, -⟩ := eight hSw; go_simp; (try (first | with_reducible rfl | rfl))) ?_; (try simp only [Act.put, List.setIfInBounds_toArray, List.set_cons_zero, List.set_cons_succ])
  refine sc_nil (NoPanic.normal ?_)
  go_wp2
  go_ret
  exact ⟨rfl, (HB2.out.call HWD.out).alloc _⟩

set_option maxHeartbeats 4000000 in
theorem eright_5c {v1 v2 o : Int} {v3 t : List UInt8} {a a2 : Option Addr} {c c2 : Nat} (hn : sumNames.contains sCount = true) (hB : ∀ w, Calls Tryz.prog 71 #[EV 5 (v1, v2, v3) t sCount o (.slice a 0 c)] w fun e w' => e = .returned (EV 5 (v1, v2, v3) t sCount o (.slice a2 0 c2)) ∧ Bl w w') (w : World) :
    Calls Tryz.prog 48 #[EV 5 (v1, v2, v3) t sCount o (.slice a 0 c)] w fun e w' => e = .returned (.bool true) ∧ Bl w w' := by
  have HB := Lib.hid hB
  clear hB
  go_enter Tryz.func48, Tryz.ntmps48
  go_wp2_with fail
  refine (HB.out _).mono ?_
  rintro e w1 ⟨rfl, hb1⟩
  have hX1 := (hb1.block w.heap.size (by simp)).trans (heap_new w _)
  obtain ⟨⟨e0, e1, e2, e3, e4, e5, e6, e7⟩, -⟩ := eight hX1
  have hlt := (Array.getElem?_eq_some_iff.1 hX1).1
  have HBL := Lib.hid (((Bl.refl w).alloc _).call hb1)
  clear hb1
  go_wp2_with fail
  have hX2 := ((Bl.refl w1).alloc (.cells #[.int .i64 5, .int .i64 v1, .int .i64 v2, S v3, S t, S sCount, .int .i64 o, .slice a2 0 c2] 30)).block _ hlt |>.trans hX1
  have HX2 := Lib.hid hX2
  have HB2 := Lib.hid (HBL.out.alloc (.cells #[.int .i64 5, .int .i64 v1, .int .i64 v2, S v3, S t, S sCount, .int .i64 o, .slice a2 0 c2] 30))
  clear e0 e1 e2 e3 e4 e5 e6 e7 hX1 hX2
  generalize w1.alloc (.cells #[.int .i64 5, .int .i64 v1, .int .i64 v2, S v3, S t, S sCount, .int .i64 o, .slice a2 0 c2] 30) = w2 at *
  refine wp_region_noPanic (wp_region_sd (fun B => B.heap[w.heap.size]? = some (.cells #[.int .i64 5, .int .i64 v1, .int .i64 v2, S v3, S t, S sCount, .int .i64 o, .slice a 0 c] 30 (0, 0))) ((.take 1 (.take 2 (.one 0 (.one 3 (.take 4 (.take 5 (.take 6 (.one 7 (.take 8 (.take 9 (.take 10 (.take 11 (.one 12 (.take 13 (.take 14 (.take 15 (.take 16 (.one 17 (.take 18 (.one 19 (.take 20 (.take 21 (.take 22 (.take 23 (.take 24 .done)))))))))))))))))))))))))) (by kernel_rfl) (by kernel_rfl) (by kernel_rfl) (fun _ _ _ _ _ h => h) (HX2.out) ?_) -- wp_region_sc 
  intro wd HWD hHeld
  refine sc_take' rfl (by rfl) (by intro w hSw; (try dsimp only at hSw); obtain ⟨⟨e0, e1, e2, e3, e4, e5, e6, e7⟩, -⟩ := eight hSw; go_simp; (try (first | with_reducible rfl | rfl))) ?_; (try simp only [Act.put, List.setIfInBounds_toArray, List.set_cons_zero, List.set_cons_succ])
  refine sc_take' rfl (by rfl) (by intro w hSw; (try dsimp only at hSw); obtain ⟨⟨e0, e1, e2, e3, e4, e5, e6, e7⟩, -⟩ := eight hSw; go_simp; (try (first | with_reducible rfl | rfl))) ?_; (try simp only [Act.put, List.setIfInBounds_toArray, List.set_cons_zero, List.set_cons_succ])
  refine sc_call' rfl (fun K hK => ?_); go_simp; ((with_reducible refine (erows_any _).mono ?_); rintro e w3 ⟨rfl, rfl⟩); go_wp2_with fail; refine hK.out _ _ ((by first | exact hHeld | exact (heap_old _ _ (Array.getElem?_eq_some_iff.1 hHeld).1).trans hHeld)) (fun hHeld2 => ?_); clear hHeld hK K; have hHeld := hHeld2; clear hHeld2
  refine sc_call' rfl (fun K hK => ?_); go_simp; (refine (contains_rows (heap_new wd _) sCount).mono ?_; rintro e w4 ⟨rfl, rfl⟩; rw [hn]); go_wp2_with fail; refine hK.out _ _ ((by first | exact hHeld | exact (heap_old _ _ (Array.getElem?_eq_some_iff.1 hHeld).1).trans hHeld)) (fun hHeld2 => ?_); clear hHeld hK K; have hHeld := hHeld2; clear hHeld2
  refine sc_take' rfl (by rfl) (by intro w hSw; (try dsimp only at hSw); obtain ⟨⟨e0, e1, e2, e3, e4, e5, e6, e7⟩, -⟩ := eight hSw; go_simp; (try (first | with_reducible rfl | rfl))) ?_; (try simp only [Act.put, List.setIfInBounds_toArray, List.set_cons_zero, List.set_cons_succ])
  refine sc_take' rfl (by rfl) (by intro w hSw; (try dsimp only at hSw); obtain ⟨⟨e0, e1, e2, e3, e4, e5, e6, e7⟩, -⟩ := eight hSw; go_simp; (try (first | with_reducible rfl | rfl))) ?_; (try simp only [Act.put, List.setIfInBounds_toArray, List.set_cons_zero, List.set_cons_succ])
  refine sc_take' rfl (by rfl) (by intro w hSw; (try dsimp only at hSw); obtain ⟨⟨e0, e1, e2, e3, e4, e5, e6, e7⟩, -⟩ := eight hSw; go_simp; (try (first | with_reducible rfl | rfl))) ?_; (try simp only [Act.put, List.setIfInBounds_toArray, List.set_cons_zero, List.set_cons_succ])
  refine sc_call' rfl (fun K hK => ?_); go_simp; refine hK.out _ _ (hHeld) (fun hHeld2 => ?_); clear hHeld hK K; have hHeld := hHeld2; clear hHeld2
  refine sc_take' rfl (by rfl) (by intro w hSw; (try dsimp only at hSw); obtain ⟨⟨e0, e1, e2, e3, e4, e5, e6, e7⟩, -⟩ := eight hSw; go_simp; (try (first | with_reducible rfl | rfl))) ?_; (try simp only [Act.put, List.setIfInBounds_toArray, List.set_cons_zero, List.set_cons_succ])
  refine sc_take' rfl (by rfl) (by intro w hSw; (try dsimp only at hSw); obtain ⟨⟨e0, e1, e2, e3, e4, e5, e6, e7⟩, -⟩ := eight hSw; go_simp; (try (first | with_reducible rfl | rfl))) ?_; (try simp only [Act.put, List.setIfInBounds_toArray, List.set_cons_zero, List.set_cons_succ])
  refine sc_take' rfl (by rfl) (by intro w hSw; (try dsimp only at hSw); obtain ⟨⟨e0, e1, e2, e3, e4, e5, e6, e7⟩, -⟩ := eight hSw; go_simp; (try (first | with_reducible rfl | rfl))) ?_; (try simp only [Act.put, List.setIfInBounds_toArray, List.set_cons_zero, List.set_cons_succ])
  refine sc_take' rfl (by rfl) (by intro w hSw; (try dsimp only at hSw); obtain ⟨⟨e0, e1, e2, e3, e4, e5, e6, e7⟩, -⟩ := eight hSw; go_simp; (try (first | with_reducible rfl | rfl))) ?_; (try simp only [Act.put, List.setIfInBounds_toArray, List.set_cons_zero, List.set_cons_succ])
  refine sc_call' rfl (fun K hK => ?_); go_simp; refine hK.out _ _ (hHeld) (fun hHeld2 => ?_); clear hHeld hK K; have hHeld := hHeld2; clear hHeld2
  refine sc_take' rfl (by rfl) (by intro w hSw; (try dsimp only at hSw); obtain ⟨⟨e0, e1, e2, e3, e4, e5, e6, e7⟩, -⟩ := eight hSw; go_simp; (try (first | with_reducible rfl | rfl))) ?_; (try simp only [Act.put, List.setIfInBounds_toArray, List.set_cons_zero, List.set_cons_succ])
  refine sc_take' rfl (by rfl) (by intro w hSw; (try dsimp only at hSw); obtain ⟨⟨e0, e1, e2, e3, e4, e5, e6, e7⟩, -⟩ := eight hSw; go_simp; (try (first | with_reducible rfl | rfl))) ?_; (try simp only [Act.put, List.setIfInBounds_toArray, List.set_cons_zero, List.set_cons_succ])
  refine sc_take' rfl (by rfl) (by intro w hSw; (try dsimp only at hSw); obtain ⟨⟨e0, e1, e2, e3, e4, e5, e6, e7⟩, -⟩ := eight hSw; go_simp; (try (first | with_reducible rfl | rfl))) ?_; (try simp only [Act.put, List.setIfInBounds_toArray, List.set_cons_zero, List.set_cons_succ])
  refine sc_take' rfl (by rfl) (by intro w hSw; (try dsimp only at hSw); obtain ⟨⟨e0, e1, e2, e3, e4, e5, e6, e7⟩, -⟩ := eight hSw; go_simp; (try (first | with_reducible rfl | rfl))) ?_; (try simp only [Act.put, List.setIfInBounds_toArray, List.set_cons_zero, List.set_cons_succ])
  refine sc_call' rfl (fun K hK => ?_); go_simp; ((with_reducible refine (erows_any _).mono ?_); rintro e w5 ⟨rfl, rfl⟩); go_wp2_with fail; refine hK.out _ _ ((by first | exact hHeld | exact (heap_old _ _ (Array.getElem?_eq_some_iff.1 hHeld).1).trans hHeld)) (fun hHeld2 => ?_); clear hHeld hK K; have hHeld := hHeld2; clear hHeld2
  refine sc_take' rfl (by rfl) (by intro w hSw; (try dsimp only at hSw); obtain ⟨⟨e0, e1, e2, e3, e4, e5, e6, e7⟩, -⟩ := eight hSw; go_simp; (try (first | with_reducible rfl | rfl))) ?_; (try simp only [Act.put, List.setIfInBounds_toArray, List.set_cons_zero, List.set_cons_succ])
  refine sc_call' rfl (fun K hK => ?_); go_simp; refine hK.out _ _ (hHeld) (fun hHeld2 => ?_); clear hHeld hK K; have hHeld := hHeld2; clear hHeld2
  refine sc_take' rfl (by rfl) (by intro w hSw; (try dsimp only at hSw); obtain ⟨⟨e0, e1, e2, e3, e4, e5, e6, e7⟩, -⟩ := eight hSw; go_simp; (try (first | with_reducible rfl | rfl))) ?_; (try simp only [Act.put, List.setIfInBounds_toArray, List.set_cons_zero, List.set_cons_succ])
  refine sc_take' rfl (by rfl) (by intro w hSw; (try dsimp only at hSw); obtain ⟨⟨e0, e1, e2, e3, e4, e5, e6, e7⟩, -⟩ := eight hSw; go_simp; (try (first | with_reducible rfl | rfl))) ?_; (try simp only [Act.put, List.setIfInBounds_toArray, List.set_cons_zero, List.set_cons_succ])
  refine sc_take' rfl (by rfl) (by intro w hSw; (try dsimp only at hSw); obtain ⟨⟨e0, e1, e2, e3, e4, e5, e6, e7⟩, -⟩ := eight hSw; go_simp; (try (first | with_reducible rfl | rfl))) ?_; (try simp only [Act.put, List.setIfInBounds_toArray, List.set_cons_zero, List.set_cons_succ])
  refine sc_take' rfl (by rfl) (by intro w hSw; (try dsimp only at hSw); obtain ⟨⟨e0, e1, e2, e3, e4, e5, e6, e7⟩, -⟩ := eight hSw; go_simp; (try (first | with_reducible rfl | rfl))) ?_; (try simp only [Act.put, List.setIfInBounds_toArray, List.set_cons_zero, List.set_cons_succ])
  refine sc_take' rfl (by rfl) (by intro w hSw; (try dsimp only at hSw); obtain ⟨⟨e0, e1, e2, e3, e4, e5, e6, e7⟩, -⟩ := eight hSw; go_simp; (try (first | with_reducible rfl | rfl))) ?_; (try simp only [Act.put, List.setIfInBounds_toArray, List.set_cons_zero, List.set_cons_succ])
  refine sc_nil (NoPanic.normal ?_)
  go_wp2
  go_ret
  exact ⟨rfl, ((HB2.out.call HWD.out).alloc _).alloc _⟩

set_option maxHeartbeats 4000000 in
theorem eright_5e {v1 v2 o : Int} {v3 t n : List UInt8} {a a2 : Option Addr} {c c2 : Nat} (hn : sumNames.contains n = true) (hc : (n == sCount) = false) (hB : ∀ w, Calls Tryz.prog 71 #[EV 5 (v1, v2, v3) t n o (.slice a 0 c)] w fun e w' => e = .returned (EV 5 (v1, v2, v3) t n o (.slice a2 0 c2)) ∧ Bl w w') (w : World) :
    Calls Tryz.prog 48 #[EV 5 (v1, v2, v3) t n o (.slice a 0 c)] w fun e w' => e = .returned (.bool false) ∧ Bl w w' := by
  have HB := Lib.hid hB
  clear hB
  go_enter Tryz.func48, Tryz.ntmps48
  go_wp2_with fail
  refine (HB.out _).mono ?_
  rintro e w1 ⟨rfl, hb1⟩
  have hX1 := (hb1.block w.heap.size (by simp)).trans (heap_new w _)
  obtain ⟨⟨e0, e1, e2, e3, e4, e5, e6, e7⟩, -⟩ := eight hX1
  have hlt := (Array.getElem?_eq_some_iff.1 hX1).1
  have HBL := Lib.hid (((Bl.refl w).alloc _).call hb1)
  clear hb1
  go_wp2_with fail
  have hX2 := ((Bl.refl w1).alloc (.cells #[.int .i64 5, .int .i64 v1, .int .i64 v2, S v3, S t, S n, .int .i64 o, .slice a2 0 c2] 30)).block _ hlt |>.trans hX1
  have HX2 := Lib.hid hX2
  have HB2 := Lib.hid (HBL.out.alloc (.cells #[.int .i64 5, .int .i64 v1, .int .i64 v2, S v3, S t, S n, .int .i64 o, .slice a2 0 c2] 30))
  clear e0 e1 e2 e3 e4 e5 e6 e7 hX1 hX2
  generalize w1.alloc (.cells #[.int .i64 5, .int .i64 v1, .int .i64 v2, S v3, S t, S n, .int .i64 o, .slice a2 0 c2] 30) = w2 at *
  refine wp_region_noPanic (wp_region_sd (fun B => B.heap[w.heap.size]? = some (.cells #[.int .i64 5, .int .i64 v1, .int .i64 v2, S v3, S t, S n, .int .i64 o, .slice a 0 c] 30 (0, 0))) ((.take 1 (.take 2 (.one 0 (.one 3 (.take 4 (.take 5 (.take 6 (.one 7 (.take 8 (.take 9 (.take 10 (.take 11 (.one 12 (.take 13 (.take 14 (.take 15 (.take 16 (.one 17 (.take 18 (.one 19 (.take 20 (.take 21 (.take 22 (.take 23 (.take 24 .done)))))))))))))))))))))))))) (by kernel_rfl) (by kernel_rfl) (by kernel_rfl) (fun _ _ _ _ _ h => h) (HX2.out) ?_) -- wp_region_sc 
  intro wd HWD hHeld
  refine sc_take' rfl (by rfl) (by intro w hSw; (try dsimp only at hSw); obtain ⟨⟨e0, e1, e2, e3, e4, e5, e6, e7⟩, -⟩ := eight hSw; go_simp; (try (first | with_reducible rfl | rfl))) ?_; (try simp only [Act.put, List.setIfInBounds_toArray, List.set_cons_zero, List.set_cons_succ])
  refine sc_take' rfl (by rfl) (by intro w hSw; (try dsimp only at hSw); obtain ⟨⟨e0, e1, e2, e3, e4, e5, e6, e7⟩, -⟩ := eight hSw; go_simp; (try (first | with_reducible rfl | rfl))) ?_; (try simp only [Act.put, List.setIfInBounds_toArray, List.set_cons_zero, List.set_cons_succ])
  refine sc_call' rfl (fun K hK => ?_); go_simp; ((with_reducible refine (erows_any _).mono ?_); rintro e w3 ⟨rfl, rfl⟩); go_wp2_with fail; refine hK.out _ _ ((by first | exact hHeld | exact (heap_old _ _ (Array.getElem?_eq_some_iff.1 hHeld).1).trans hHeld)) (fun hHeld2 => ?_); clear hHeld hK K; have hHeld := hHeld2; clear hHeld2
  refine sc_call' rfl (fun K hK => ?_); go_simp; (refine (contains_rows (heap_new wd _) n).mono ?_; rintro e w4 ⟨rfl, rfl⟩; rw [hn]); go_wp2_with fail; refine hK.out _ _ ((by first | exact hHeld | exact (heap_old _ _ (Array.getElem?_eq_some_iff.1 hHeld).1).trans hHeld)) (fun hHeld2 => ?_); clear hHeld hK K; have hHeld := hHeld2; clear hHeld2
  refine sc_take' rfl (by rfl) (by intro w hSw; (try dsimp only at hSw); obtain ⟨⟨e0, e1, e2, e3, e4, e5, e6, e7⟩, -⟩ := eight hSw; go_simp; (try (first | with_reducible rfl | rfl))) ?_; (try simp only [Act.put, List.setIfInBounds_toArray, List.set_cons_zero, List.set_cons_succ])
  refine sc_take' rfl (by rfl) (by intro w hSw; (try dsimp only at hSw); obtain ⟨⟨e0, e1, e2, e3, e4, e5, e6, e7⟩, -⟩ := eight hSw; go_simp; (try (first | with_reducible rfl | rfl))) ?_; (try simp only [Act.put, List.setIfInBounds_toArray, List.set_cons_zero, List.set_cons_succ])
  refine sc_take' rfl (by rfl) (by intro w hSw; (try dsimp only at hSw); obtain ⟨⟨e0, e1, e2, e3, e4, e5, e6, e7⟩, -⟩ := eight hSw; go_simp; (try (first | with_reducible rfl | rfl))) ?_; (try simp only [Act.put, List.setIfInBounds_toArray, List.set_cons_zero, List.set_cons_succ])
  refine sc_call' rfl (fun K hK => ?_); go_simp; refine hK.out _ _ (hHeld) (fun hHeld2 => ?_); clear hHeld hK K; have hHeld := hHeld2; clear hHeld2
  refine sc_take' rfl (by rfl) (by intro w hSw; (try dsimp only at hSw); obtain ⟨⟨e0, e1, e2, e3, e4, e5, e6, e7⟩, -⟩ := eight hSw; go_simp; (try (first | with_reducible rfl | rfl))) ?_; (try simp only [Act.put, List.setIfInBounds_toArray, List.set_cons_zero, List.set_cons_succ])
  refine sc_take' rfl (by rfl) (by intro w hSw; (try dsimp only at hSw); obtain ⟨⟨e0, e1, e2, e3, e4, e5, e6, e7⟩, -⟩ := eight hSw; go_simp; (try (first | with_reducible rfl | rfl))) ?_; (try simp only [Act.put, List.setIfInBounds_toArray, List.set_cons_zero, List.set_cons_succ])
  refine sc_take' rfl (by rfl) (by intro w hSw; (try dsimp only at hSw); obtain ⟨⟨e0, e1, e2, e3, e4, e5, e6, e7⟩, -⟩ := eight hSw; go_simp; (try (first | with_reducible rfl | rfl))) ?_; (try simp only [Act.put, List.setIfInBounds_toArray, List.set_cons_zero, List.set_cons_succ])
  refine sc_take' rfl (by rfl) (by intro w hSw; (try dsimp only at hSw); obtain ⟨⟨e0, e1, e2, e3, e4, e5, e6, e7⟩, -⟩ := eight hSw; go_simp; (try (first | with_reducible rfl | rfl))) ?_; (try simp only [Act.put, List.setIfInBounds_toArray, List.set_cons_zero, List.set_cons_succ])
  refine sc_call' rfl (fun K hK => ?_); go_simp; refine hK.out _ _ (hHeld) (fun hHeld2 => ?_); clear hHeld hK K; have hHeld := hHeld2; clear hHeld2
  refine sc_take' rfl (by rfl) (by intro w hSw; (try dsimp only at hSw); obtain ⟨⟨e0, e1, e2, e3, e4, e5, e6, e7⟩, -⟩ := eight hSw; go_simp; (try (first | with_reducible rfl | rfl))) ?_; (try simp only [Act.put, List.setIfInBounds_toArray, List.set_cons_zero, List.set_cons_succ])
  refine sc_take' rfl (by rfl) (by intro w hSw; (try dsimp only at hSw); obtain ⟨⟨e0, e1, e2, e3, e4, e5, e6, e7⟩, -⟩ := eight hSw; go_simp; (try (first | with_reducible rfl | rfl))) ?_; (try simp only [Act.put, List.setIfInBounds_toArray, List.set_cons_zero, List.set_cons_succ])
  refine sc_take' rfl (by rfl) (by intro w hSw; (try dsimp only at hSw); obtain ⟨⟨e0, e1, e2, e3, e4, e5, e6, e7⟩, -⟩ := eight hSw; go_simp; (try (first | with_reducible rfl | rfl))) ?_; (try simp only [Act.put, List.setIfInBounds_toArray, List.set_cons_zero, List.set_cons_succ])
  refine sc_take' rfl (by rfl) (by intro w hSw; (try dsimp only at hSw); obtain ⟨⟨e0, e1, e2, e3, e4, e5, e6, e7⟩, -⟩ := eight hSw; go_simp; (try (first | with_reducible rfl | rfl))) ?_; (try simp only [Act.put, List.setIfInBounds_toArray, List.set_cons_zero, List.set_cons_succ])
  refine sc_call' rfl (fun K hK => ?_); go_simp; ((with_reducible refine (erows_any _).mono ?_); rintro e w5 ⟨rfl, rfl⟩); go_wp2_with fail; refine hK.out _ _ ((by first | exact hHeld | exact (heap_old _ _ (Array.getElem?_eq_some_iff.1 hHeld).1).trans hHeld)) (fun hHeld2 => ?_); clear hHeld hK K; have hHeld := hHeld2; clear hHeld2
  refine sc_take' rfl (by rfl) (by intro w hSw; (try dsimp only at hSw); obtain ⟨⟨e0, e1, e2, e3, e4, e5, e6, e7⟩, -⟩ := eight hSw; go_simp; (try (first | with_reducible rfl | rfl))) ?_; (try simp only [Act.put, List.setIfInBounds_toArray, List.set_cons_zero, List.set_cons_succ])
  refine sc_call' rfl (fun K hK => ?_); go_simp; refine hK.out _ _ (hHeld) (fun hHeld2 => ?_); clear hHeld hK K; have hHeld := hHeld2; clear hHeld2
  refine sc_take' rfl (by rfl) (by intro w hSw; (try dsimp only at hSw); obtain ⟨⟨e0, e1, e2, e3, e4, e5, e6, e7⟩, -⟩ := eight hSw; go_simp; (try (first | with_reducible rfl | rfl))) ?_; (try simp only [Act.put, List.setIfInBounds_toArray, List.set_cons_zero, List.set_cons_succ])
  refine sc_take' rfl (by rfl) (by intro w hSw; (try dsimp only at hSw); obtain ⟨⟨e0, e1, e2, e3, e4, e5, e6, e7⟩, -⟩ := eight hSw; go_simp; (try (first | with_reducible rfl | rfl))) ?_; (try simp only [Act.put, List.setIfInBounds_toArray, List.set_cons_zero, List.set_cons_succ])
  refine sc_take' rfl (by rfl) (by intro w hSw; (try dsimp only at hSw); obtain ⟨⟨e0, e1, e2, e3, e4, e5, e6, e7⟩, -⟩ := eight hSw; go_simp; (try (first | with_reducible rfl | rfl))) ?_; (try simp only [Act.put, List.setIfInBounds_toArray, List.set_cons_zero, List.set_cons_succ])
  refine sc_take' rfl (by rfl) (by intro w hSw; (try dsimp only at hSw); obtain ⟨⟨e0, e1, e2, e3, e4, e5, e6, e7⟩, -⟩ := eight hSw; go_simp; (try (first | with_reducible rfl | rfl))) ?_; (try simp only [Act.put, List.setIfInBounds_toArray, List.set_cons_zero, List.set_cons_succ])
  refine sc_take' rfl (by rfl) (by intro w hSw; (try dsimp only at hSw); obtain ⟨⟨e0, e1, e2, e3, e4, e5, e6, e7⟩, -⟩ := eight hSw; go_simp; (try (first | with_reducible rfl | rfl))) ?_; (try simp only [Act.put, List.setIfInBounds_toArray, List.set_cons_zero, List.set_cons_succ])
  refine sc_nil (NoPanic.normal ?_)
  go_wp2
  go_ret
  exact ⟨rfl, ((HB2.out.call HWD.out).alloc _).alloc _⟩
--END2

end Go.Proofs.YtepkfkfedmbmnaaGreatDoor

namespace Go.Proofs.YtepkfkfedmbmnaaGreatDoor
open Go.RowKit
set_option maxRecDepth 100000

theorem false_of {b : Bool} (h : b = true → False) : b = false := by
  cases b
  · rfl
  · exact absurd rfl h
theorem eright_any (k v1 v2 o : Int) (v3 t n : List UInt8) (a : Option Addr) (args : List Ex) (c : Nat) (hlt : t.length ≤ 9223372036854775807) (hln : n.length ≤ 9223372036854775807) (w : World) (hG : Glob w) :
    Calls Tryz.prog 48 #[EV k (v1, v2, v3) t n o (.slice a args.length c)] w fun e w' => e = .returned (.bool (rightF k (v1, v2, v3) t n o args)) ∧ Bl w w' := by
  have hnil : ∀ l : List Ex, 0 = l.length → l = [] := fun l h => List.eq_nil_of_length_eq_zero h.symm
  by_cases h1 : k = 1
  · subst h1
    have hB : ∀ w, Calls Tryz.prog 71 #[EV 1 (v1, v2, v3) t n o (.slice a args.length c)] w fun e w' => e = .returned (EV 1 (v1, v2, v3) [] [] 0 (.slice none 0 0)) ∧ Bl w w' := fun w => ebare_any 1 v1 v2 o v3 t n a args.length c w
    by_cases hm : t = [] ∧ n = [] ∧ o = 0 ∧ args = []
    · obtain ⟨rfl, rfl, rfl, rfl⟩ := hm
      have h := eright_1 (m := 0) hB w
      rw [show rightF 1 (v1, v2, v3) [] [] 0 [] = ((chk v1 v2 v3 == 0) && (v1 != 2 || decide (0 ≤ v2))) by simp [rightF]]
      exact h
    · rw [false_of (b := rightF 1 (v1, v2, v3) t n o args) fun hh => by
        simp only [rightF, if_true, Bool.and_eq_true, beq_iff_eq, List.isEmpty_iff] at hh
        exact hm ⟨hh.1.1.1.1.1, hh.1.1.1.1.2, hh.1.1.1.2, hh.1.1.2⟩]
      exact eright_mis hB (by rintro ⟨-, -, -, h4, h5, h6, h7⟩; exact hm ⟨h4.symm, h5.symm, h6.symm, hnil _ h7⟩) w
  by_cases h2 : k = 2
  · subst h2
    have hB : ∀ w, Calls Tryz.prog 71 #[EV 2 (v1, v2, v3) t n o (.slice a args.length c)] w fun e w' => e = .returned (EV 2 (0, 0, []) t n 0 (.slice none 0 0)) ∧ Bl w w' := fun w => ebare_any 2 v1 v2 o v3 t n a args.length c w
    by_cases hm : v1 = 0 ∧ v2 = 0 ∧ v3 = [] ∧ o = 0 ∧ args = []
    · obtain ⟨rfl, rfl, rfl, rfl, rfl⟩ := hm
      have h := eright_2 (m := 0) hlt hln hB w hG
      rw [show rightF 2 (0, 0, []) t n 0 [] = (nameB n && (t == [] || nameB t)) by simp [rightF]]
      exact h
    · rw [false_of (b := rightF 2 (v1, v2, v3) t n o args) fun hh => by
        simp only [rightF, show ¬ (2 : Int) = 1 by decide, if_false, if_true, Bool.and_eq_true, beq_iff_eq, List.isEmpty_iff, Prod.mk.injEq] at hh
        exact hm ⟨hh.1.1.1.1.1, hh.1.1.1.1.2.1, hh.1.1.1.1.2.2, hh.1.1.1.2, hh.1.1.2⟩]
      exact eright_mis hB (by rintro ⟨h1, h2, h3, -, -, h6, h7⟩; exact hm ⟨h1.symm, h2.symm, h3.symm, h6.symm, hnil _ h7⟩) w
  by_cases h3 : k = 3
  · subst h3
    have hB : ∀ w, Calls Tryz.prog 71 #[EV 3 (v1, v2, v3) t n o (.slice a args.length c)] w fun e w' => e = .returned (EV 3 (0, 0, []) [] [] o (.slice a args.length c)) ∧ Bl w w' := fun w => ebare_any 3 v1 v2 o v3 t n a args.length c w
    by_cases hm : v1 = 0 ∧ v2 = 0 ∧ v3 = [] ∧ t = [] ∧ n = []
    · obtain ⟨rfl, rfl, rfl, rfl, rfl⟩ := hm
      have h := eright_3 hB w
      rw [show rightF 3 (0, 0, []) [] [] o args = (decide (1 ≤ o ∧ o ≤ 20) && args.length == opMany o) by simp [rightF]]
      exact h
    · rw [false_of (b := rightF 3 (v1, v2, v3) t n o args) fun hh => by
        simp only [rightF, show ¬ (3 : Int) = 1 by decide, show ¬ (3 : Int) = 2 by decide, if_false, if_true, Bool.and_eq_true, beq_iff_eq, Prod.mk.injEq] at hh
        exact hm ⟨hh.1.1.1.1.1, hh.1.1.1.1.2.1, hh.1.1.1.1.2.2, hh.1.1.1.2, hh.1.1.2⟩]
      exact eright_mis hB (by rintro ⟨h1, h2, h3, h4, h5, -, -⟩; exact hm ⟨h1.symm, h2.symm, h3.symm, h4.symm, h5.symm⟩) w
  by_cases h4 : k = 4
  · subst h4
    have hB : ∀ w, Calls Tryz.prog 71 #[EV 4 (v1, v2, v3) t n o (.slice a args.length c)] w fun e w' => e = .returned (EV 4 (0, 0, []) [] [] 0 (.slice a args.length c)) ∧ Bl w w' := fun w => ebare_any 4 v1 v2 o v3 t n a args.length c w
    by_cases hm : v1 = 0 ∧ v2 = 0 ∧ v3 = [] ∧ t = [] ∧ n = [] ∧ o = 0
    · obtain ⟨rfl, rfl, rfl, rfl, rfl, rfl⟩ := hm
      have h := eright_4 hB w
      rw [show rightF 4 (0, 0, []) [] [] 0 args = decide (0 < args.length) by
        cases args with
        | nil => simp [rightF]
        | cons x r => simp [rightF]]
      exact h
    · rw [false_of (b := rightF 4 (v1, v2, v3) t n o args) fun hh => by
        simp only [rightF, show ¬ (4 : Int) = 1 by decide, show ¬ (4 : Int) = 2 by decide, show ¬ (4 : Int) = 3 by decide, if_false, if_true, Bool.and_eq_true, beq_iff_eq, Prod.mk.injEq] at hh
        exact hm ⟨hh.1.1.1.1.1, hh.1.1.1.1.2.1, hh.1.1.1.1.2.2, hh.1.1.1.2, hh.1.1.2, hh.1.2⟩]
      exact eright_mis hB (by rintro ⟨h1, h2, h3, h4, h5, h6, -⟩; exact hm ⟨h1.symm, h2.symm, h3.symm, h4.symm, h5.symm, h6.symm⟩) w
  by_cases h5 : k = 5
  · subst h5
    have hB : ∀ w, Calls Tryz.prog 71 #[EV 5 (v1, v2, v3) t n o (.slice a args.length c)] w fun e w' => e = .returned (EV 5 (0, 0, []) [] n 0 (.slice a args.length c)) ∧ Bl w w' := fun w => ebare_any 5 v1 v2 o v3 t n a args.length c w
    by_cases hm : v1 = 0 ∧ v2 = 0 ∧ v3 = [] ∧ t = [] ∧ o = 0
    · obtain ⟨rfl, rfl, rfl, rfl, rfl⟩ := hm
      rw [show rightF 5 (0, 0, []) [] n 0 args = (sumNames.contains n && (args.length == 1 || args.isEmpty && n == sCount)) by simp [rightF]]
      cases hc : sumNames.contains n
      · exact eright_5a hc hB w
      · rw [Bool.true_and]
        match args, hB with
        | [], hB =>
          by_cases hs : n = sCount
          · subst hs
            have h := eright_5c hc hB w
            rw [show (([] : List Ex).length == 1 || ([] : List Ex).isEmpty && sCount == sCount) = true from rfl]
            exact h
          · have hs' : (n == sCount) = false := by simpa using hs
            have h := eright_5e hc hs' hB w
            rw [hs']
            exact h
        | [x], hB => exact eright_5b hc hB w
        | x :: y :: r, hB =>
          have h := eright_5d (m := r.length) hc hB w
          rw [show ((x :: y :: r).length == 1 || (x :: y :: r).isEmpty && n == sCount) = false by simp]
          exact h
    · rw [false_of (b := rightF 5 (v1, v2, v3) t n o args) fun hh => by
        simp only [rightF, show ¬ (5 : Int) = 1 by decide, show ¬ (5 : Int) = 2 by decide, show ¬ (5 : Int) = 3 by decide, show ¬ (5 : Int) = 4 by decide, if_false, if_true, Bool.and_eq_true, beq_iff_eq, Prod.mk.injEq] at hh
        exact hm ⟨hh.1.1.1.1.1, hh.1.1.1.1.2.1, hh.1.1.1.1.2.2, hh.1.1.1.2, hh.1.1.2⟩]
      exact eright_mis hB (by rintro ⟨h1, h2, h3, h4, -, h6, -⟩; exact hm ⟨h1.symm, h2.symm, h3.symm, h4.symm, h6.symm⟩) w
  have hB : ∀ w, Calls Tryz.prog 71 #[EV k (v1, v2, v3) t n o (.slice a args.length c)] w fun e w' => e = .returned (EV k (0, 0, []) [] [] 0 (.slice a args.length c)) ∧ Bl w w' := fun w => by
    have h := ebare_any k v1 v2 o v3 t n a args.length c w
    rw [show bareV k (v1, v2, v3) t n o (.slice a args.length c) = EV k (0, 0, []) [] [] 0 (.slice a args.length c) by unfold bareV; rw [if_neg h1, if_neg h2, if_neg h3, if_neg h5]] at h
    exact h
  rw [show rightF k (v1, v2, v3) t n o args = false by unfold rightF; rw [if_neg h1, if_neg h2, if_neg h3, if_neg h4, if_neg h5]]
  by_cases hm : v1 = 0 ∧ v2 = 0 ∧ v3 = [] ∧ t = [] ∧ n = [] ∧ o = 0
  · obtain ⟨rfl, rfl, rfl, rfl, rfl, rfl⟩ := hm
    exact eright_x ⟨h1, h2, h3, h4, h5⟩ hB w
  · exact eright_mis hB (by rintro ⟨h1, h2, h3, h4, h5, h6, -⟩; exact hm ⟨h1.symm, h2.symm, h3.symm, h4.symm, h5.symm, h6.symm⟩) w

end Go.Proofs.YtepkfkfedmbmnaaGreatDoor

