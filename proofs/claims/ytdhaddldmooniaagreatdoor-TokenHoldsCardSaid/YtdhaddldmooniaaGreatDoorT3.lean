/- Package token: what tokens begin with. -/
import Derived.Test.YtdhaddldmooniaaGreatDoorT2
namespace Go.Proofs.YtdhaddldmooniaaGreatDoor
open Go.RowKit
set_option maxRecDepth 100000

/-- The signs, the longest ahead. -/
def signL : List (List UInt8) := [[60, 62], [60, 61], [62, 61], [124, 124], [40], [41], [44], [46], [59], [42], [43], [45], [47], [37], [61], [60], [62]]
def signOf (l : List UInt8) : List UInt8 := (signL.find? fun x => Lib.hasPrefix l x).getD []

def sgnP (c : UInt8) (h : Option UInt8) : List UInt8 → Bool
  | [a] => c == a
  | [a, b] => c == a && h == some b
  | _ => false
theorem sgnP_is (c : UInt8) (r x : List UInt8) (hx : x ∈ signL) : Lib.hasPrefix (c :: r) x = sgnP c r.head? x := by
  have h1 : ∀ a, Lib.hasPrefix (c :: r) [a] = sgnP c r.head? [a] := fun a => by rw [hasPrefix_one]; simp [sgnP]
  have h2 : ∀ a b, Lib.hasPrefix (c :: r) [a, b] = sgnP c r.head? [a, b] := fun a b => by
    rw [hasPrefix_two]; simp [sgnP, List.head?_eq_getElem?]
  simp only [signL, List.mem_cons, List.mem_nil_iff, or_false] at hx
  rcases hx with rfl | rfl | rfl | rfl | rfl | rfl | rfl | rfl | rfl | rfl | rfl | rfl | rfl | rfl | rfl | rfl | rfl <;> first | exact h2 _ _ | exact h1 _
theorem find_congr {α : Type} {p q : α → Bool} : ∀ {l : List α}, (∀ x ∈ l, p x = q x) → l.find? p = l.find? q
  | [], _ => rfl
  | a :: l, h => by
    rw [List.find?_cons, List.find?_cons, h a (by simp), find_congr fun x hx => h x (by simp [hx])]
theorem signOf_length (c : UInt8) (r : List UInt8) : (signOf (c :: r)).length = slen c r.head? := by
  have e : signOf (c :: r) = (signL.find? (sgnP c r.head?)).getD [] := by
    unfold signOf
    rw [find_congr fun x hx => sgnP_is c r x hx]
  rw [e]
  generalize r.head? = h
  by_cases c60 : c = 60
  · subst c60
    by_cases h1 : h = some 62
    · subst h1; rfl
    by_cases h2 : h = some 61
    · subst h2; rfl
    · simp [signL, sgnP, slen, List.find?_cons, h1, h2]
  by_cases c62 : c = 62
  · subst c62
    by_cases h2 : h = some 61
    · subst h2; rfl
    · simp [signL, sgnP, slen, List.find?_cons, h2]
  by_cases c124 : c = 124
  · subst c124
    by_cases h2 : h = some 124
    · subst h2; rfl
    · simp [signL, sgnP, slen, List.find?_cons, h2]
  by_cases hm : c ∈ ([40, 41, 44, 46, 59, 42, 43, 45, 47, 37, 61] : List UInt8)
  · have hs : slen c h = 1 := by simp only [slen, if_neg c60, if_neg c62, if_neg c124, if_pos hm]
    rw [hs]
    simp only [List.mem_cons, List.mem_nil_iff, or_false] at hm
    rcases hm with rfl | rfl | rfl | rfl | rfl | rfl | rfl | rfl | rfl | rfl | rfl <;> simp [signL, sgnP, List.find?_cons]
  · have hs : slen c h = 0 := by simp only [slen, if_neg c60, if_neg c62, if_neg c124, if_neg hm]
    rw [hs]
    simp only [List.mem_cons, List.mem_nil_iff, or_false, not_or] at hm
    simp [signL, sgnP, List.find?_cons, c60, c62, c124, hm]

/-- How long a word is, where none begins: 0; none: it is too long. -/
def wlen (l : List UInt8) : Option Nat := if Lib.hasPrefix l [120, 39] = true ∨ runB letterB (l.take 1) = 0 then some 0 else if runB wordB l ≤ 30 then some (runB wordB l) else none
def vlen (l : List UInt8) : Option Nat := if Lib.hasPrefix l [39] = true then (qlen (l.drop 1)).map (1 + ·) else if Lib.hasPrefix l [120, 39] = true then (qlen (l.drop 2)).map (2 + ·)
  else if runB digitB l = 0 ∨ runB digitB l = l.length ∨ runB letterB ((l.drop (runB digitB l)).take 1) = 0 then some (runB digitB l) else none

def cut3 (l : List UInt8) : Option (Int × Nat) := match wlen l with
  | none => none
  | some (n + 1) => some (1, n + 1)
  | some 0 => match vlen l with
    | none => none
    | some (n + 1) => some (2, n + 1)
    | some 0 => if (signOf l).length = 0 then none else some (3, (signOf l).length)

theorem runB_take1 (p : UInt8 → Bool) (c : UInt8) (r : List UInt8) : runB p ((c :: r).take 1) = if p c then 1 else 0 := by
  simp [runB_cons, runB_nil]
theorem head_letter (l : List UInt8) : runB letterB (l.take 1) = 0 ↔ ¬ (l.head?.map letterB = some true) := by
  cases l with
  | nil => simp [runB_nil]
  | cons c r => rw [runB_take1]; cases h : letterB c <;> simp [h]

theorem cut3_is (c : UInt8) (r : List UInt8) : cut3 (c :: r) = cut1 (c :: r) := by
  rw [cut1_cons]
  have hx : Lib.hasPrefix (c :: r) [120, 39] = true ↔ c = 120 ∧ r.head? = some 39 := by
    rw [hasPrefix_two]; simp [List.head?_eq_getElem?]
  have hq : Lib.hasPrefix (c :: r) [39] = true ↔ c = 39 := by rw [hasPrefix_one]; simp
  by_cases hl : letterB c = true ∧ ¬ (c = 120 ∧ r.head? = some 39)
  · rw [if_pos hl]
    have hw : wlen (c :: r) = if runB wordB r + 1 ≤ 30 then some (runB wordB r + 1) else none := by
      have hno : ¬ (Lib.hasPrefix (c :: r) [120, 39] = true ∨ runB letterB ((c :: r).take 1) = 0) := by
        rw [hx, runB_take1, if_pos hl.1]
        rintro (h | h)
        · exact hl.2 h
        · omega
      have hrun : runB wordB (c :: r) = runB wordB r + 1 := by rw [runB_cons, if_pos (by simp [wordB, hl.1])]
      unfold wlen
      rw [if_neg hno, hrun]
    unfold cut3
    rw [hw]
    split <;> rename_i h <;> split at h <;> simp_all
  · rw [if_neg hl]
    have hw : wlen (c :: r) = some 0 := by
      unfold wlen
      rw [if_pos]
      rw [hx, runB_take1]
      by_cases h : letterB c = true
      · left
        by_cases h2 : c = 120 ∧ r.head? = some 39
        · exact h2
        · exact absurd ⟨h, h2⟩ hl
      · right; rw [if_neg h]
    unfold cut3
    rw [hw]
    simp only
    by_cases h39 : c = 39
    · rw [if_pos h39]
      have hv : vlen (c :: r) = (qlen r).map (1 + ·) := by unfold vlen; rw [if_pos (hq.2 h39)]; rfl
      rw [hv]
      cases hr : qlen r with
      | none => rfl
      | some k => simp [Nat.add_comm 1 k]
    · rw [if_neg h39]
      by_cases h120 : c = 120
      · rw [if_pos h120]
        have h2 : r.head? = some 39 := by
          by_cases h2 : r.head? = some 39
          · exact h2
          · exact absurd ⟨by rw [h120]; decide, fun h => h2 h.2⟩ hl
        have hv : vlen (c :: r) = (qlen (r.drop 1)).map (2 + ·) := by unfold vlen; rw [if_neg (by rw [hq]; exact h39), if_pos (hx.2 ⟨h120, h2⟩)]; rfl
        rw [hv]
        cases hr : qlen (r.drop 1) with
        | none => rfl
        | some k => simp [Nat.add_comm 2 k]
      · rw [if_neg h120]
        have hv : vlen (c :: r) = if runB digitB (c :: r) = 0 ∨ runB digitB (c :: r) = (c :: r).length ∨ runB letterB (((c :: r).drop (runB digitB (c :: r))).take 1) = 0 then some (runB digitB (c :: r)) else none := by
          unfold vlen; rw [if_neg (by rw [hq]; exact h39), if_neg (by rw [hx]; exact fun h => h120 h.1)]
        rw [hv]
        by_cases hd : digitB c = true
        · rw [if_pos hd]
          have e : runB digitB (c :: r) = runB digitB r + 1 := by rw [runB_cons, if_pos hd]
          rw [e, List.drop_succ_cons]
          by_cases hh : (r.drop (runB digitB r)).head?.map letterB = some true
          · rw [if_pos hh, if_neg]
            rintro (h | h | h)
            · omega
            · simp at h
              rw [h, List.drop_length] at hh
              simp at hh
            · exact (head_letter _).1 h hh
          · rw [if_neg hh, if_pos (.inr (.inr ((head_letter _).2 hh)))]
        · rw [if_neg hd]
          have e : runB digitB (c :: r) = 0 := by rw [runB_cons, if_neg hd]
          rw [e, if_pos (.inl rfl)]
          simp only
          rw [signOf_length]

/-- How a reading of so many bytes ends. -/
def endN (o : Option Nat) : Ending := match o with
  | some n => .returned (.int .i64 (n : Int))
  | none => .panicked [{ v := .iface 25 (.int .i64 250), recovered := false }]
theorem quoteAt_is (l : List UInt8) (n : Nat) : quoteAt l n = endN ((qlen (l.drop n)).map (n + ·)) := by
  unfold quoteAt endN
  cases qlen (l.drop n) <;> rfl
theorem endN_some {o : Option Nat} {n : Nat} (h : o = some n) : Ending.returned (.int .i64 (n : Int)) = endN o := by rw [h]; rfl
theorem endN_none {o : Option Nat} (h : o = none) : Ending.panicked [{ v := .iface 25 (.int .i64 250), recovered := false }] = endN o := by rw [h]; rfl

set_option maxHeartbeats 1000000 in
theorem tbegins1_any (l : List UInt8) (h1 : 1 ≤ l.length) (hl : l.length ≤ 1000000) (w : World) : Calls Tryz.prog 58 #[S l] w fun e w' => e = endN (wlen l) ∧ Bl w w' := by
  have hh := ext_head l 1
  go_enter Tryz.func58, Tryz.ntmps58
  go_wp2_with fail
  refine (HasPrefix_L l [120, 39] _).mono ?_
  rintro e w' ⟨rfl, rfl⟩
  cases hp : Lib.hasPrefix l [120, 39]
  · have HP := Lib.hid hp
    clear hp
    go_wp2_with fail
    refine (trun_any set_letter (l.take 1) (by simp; omega) _).mono ?_
    rintro e w1 ⟨rfl, hb1⟩
    clear hh
    by_cases h0 : runB letterB (l.take 1) = 0
    · have hb : (((runB letterB (l.take 1) : Nat) : Int) == 0) = true := by simp [h0]
      have HW : Hid (wlen l = some 0) := by show wlen l = some 0; unfold wlen; rw [if_pos (.inr h0)]
      clear h0
      go_wp2_with fail
      go_ret
      exact ⟨endN_some HW.out, hb1⟩
    · have hb : (((runB letterB (l.take 1) : Nat) : Int) == 0) = false := by simpa using h0
      have HW : Hid (wlen l = if runB wordB l ≤ 30 then some (runB wordB l) else none) := by show wlen l = _; unfold wlen; rw [if_neg (by rw [HP.out]; simpa using h0)]
      clear h0
      go_wp2_with fail
      refine (trun_any set_word l hl _).mono ?_
      rintro e w2 ⟨rfl, hb2⟩
      clear hb
      by_cases h30 : runB wordB l ≤ 30
      · have HW2 : Hid (wlen l = some (runB wordB l)) := by show wlen l = _; rw [HW.out, if_pos h30]
        have hb30 : decide (((runB wordB l : Nat) : Int) ≤ 30) = true := by simp; omega
        go_wp2_with (first | (go_at_call 34; (with_reducible refine (tmust_yes _ _).mono ?_); rintro e w' ⟨rfl, rfl⟩))
        go_ret
        exact ⟨endN_some HW2.out, hb1.call hb2⟩
      · have HW2 : Hid (wlen l = none) := by show wlen l = _; rw [HW.out, if_neg h30]
        have hb30 : decide (((runB wordB l : Nat) : Int) ≤ 30) = false := by simp; omega
        go_wp2_with (first | (go_at_call 34; (with_reducible refine (tmust_no _ _).mono ?_); rintro e w' ⟨rfl, rfl⟩))
        exact ⟨rfl, endN_none HW2.out, hb1.call hb2⟩
  · have HW : Hid (wlen l = some 0) := by show wlen l = some 0; unfold wlen; rw [if_pos (.inl hp)]
    clear hp
    go_wp2_with fail
    go_ret
    exact ⟨endN_some HW.out, Bl.refl _⟩

set_option maxHeartbeats 1000000 in
theorem tbegins2_any (l : List UInt8) (h1 : 1 ≤ l.length) (hl : l.length ≤ 1000000) (w : World) : Calls Tryz.prog 59 #[S l] w fun e w' => e = endN (vlen l) ∧ Bl w w' := by
  go_enter Tryz.func59, Tryz.ntmps59
  go_wp2_with fail
  refine (HasPrefix_L l [39] _).mono ?_
  rintro e w' ⟨rfl, rfl⟩
  cases hp : Lib.hasPrefix l [39]
  · have HP := Lib.hid hp
    clear hp
    go_wp2_with fail
    refine (HasPrefix_L l [120, 39] _).mono ?_
    rintro e w' ⟨rfl, rfl⟩
    cases hp2 : Lib.hasPrefix l [120, 39]
    · have HV : Hid (vlen l = if runB digitB l = 0 ∨ runB digitB l = l.length ∨ runB letterB ((l.drop (runB digitB l)).take 1) = 0 then some (runB digitB l) else none) := by
        show vlen l = _; unfold vlen; rw [if_neg (by rw [HP.out]; decide), if_neg (by rw [hp2]; decide)]
      clear hp2 HP
      go_wp2_with fail
      refine (trun_any set_digit l hl _).mono ?_
      rintro e w1 ⟨rfl, hb1⟩
      have hle := runB_le digitB l
      generalize runB digitB l = n at *
      by_cases h0 : n = 0
      · subst h0
        have HW : Hid (vlen l = some 0) := by show vlen l = _; rw [HV.out, if_pos (.inl rfl)]
        go_wp2_with (first | (go_at_call 34; (with_reducible refine (tmust_yes _ _).mono ?_); rintro e w' ⟨rfl, rfl⟩))
        go_ret
        exact ⟨endN_some HW.out, hb1⟩
      by_cases h2 : n = l.length
      · subst h2
        have hb0 : ((l.length : Int) == 0) = false := by simpa using h0
        have HW : Hid (vlen l = some l.length) := by show vlen l = _; rw [HV.out, if_pos (.inr (.inl rfl))]
        go_wp2_with (first | (go_at_call 34; (with_reducible refine (tmust_yes _ _).mono ?_); rintro e w' ⟨rfl, rfl⟩))
        go_ret
        exact ⟨endN_some HW.out, hb1⟩
      · have hb0 : ((n : Int) == 0) = false := by simpa using h0
        have hb2 : ((n : Int) == (l.length : Int)) = false := by simp; omega
        have hb2' : (n == l.length) = false := by simpa using h2
        have hlt : n < l.length := by omega
        have hcut := ext_one l n hlt
        have HT : Hid ((l.drop n).take 1 = [l[n]]) := by show (l.drop n).take 1 = [l[n]]; rw [List.drop_eq_getElem_cons hlt]; rfl
        go_wp2_with fail
        refine (trun_any set_letter [l[n]] (by simp) _).mono ?_
        rintro e w2 ⟨rfl, hb3⟩
        rw [← HT.out]
        by_cases hr : runB letterB ((l.drop n).take 1) = 0
        · have hb : (((runB letterB ((l.drop n).take 1) : Nat) : Int) == 0) = true := by simp [hr]
          have HW : Hid (vlen l = some n) := by show vlen l = _; rw [HV.out, if_pos (.inr (.inr hr))]
          clear hr hb0 hb2 hb2' hcut
          go_wp2_with (first | (go_at_call 34; (with_reducible refine (tmust_yes _ _).mono ?_); rintro e w' ⟨rfl, rfl⟩))
          go_ret
          exact ⟨endN_some HW.out, hb1.call hb3⟩
        · have hb : (((runB letterB ((l.drop n).take 1) : Nat) : Int) == 0) = false := by simpa using hr
          have HW : Hid (vlen l = none) := by
            show vlen l = _; rw [HV.out, if_neg]
            rintro (h | h | h)
            · exact h0 h
            · exact h2 h
            · exact hr h
          clear hr hb0 hb2 hb2' hcut
          go_wp2_with (first | (go_at_call 34; (with_reducible refine (tmust_no _ _).mono ?_); rintro e w' ⟨rfl, rfl⟩))
          exact ⟨rfl, endN_none HW.out, hb1.call hb3⟩
    · have HV : Hid (vlen l = (qlen (l.drop 2)).map (2 + ·)) := by show vlen l = _; unfold vlen; rw [if_neg (by rw [HP.out]; decide), if_pos hp2]
      have h2 : 2 ≤ l.length := by
        rw [hasPrefix_two] at hp2
        simp only [Bool.and_eq_true, beq_iff_eq] at hp2
        have := (List.getElem?_eq_some_iff.1 hp2.2).1
        omega
      clear hp2 HP
      go_wp2_with fail
      refine (tquoted_any l 2 h2 hl _).mono ?_
      rintro e w' ⟨rfl, rfl⟩
      rw [quoteAt_is, ← HV.out]
      cases hv : vlen l with
      | none => exact ⟨rfl, endN_none hv, Bl.refl _⟩
      | some k =>
        have HK := Lib.hid hv
        clear hv
        simp only [endN]
        go_wp2_with fail
        go_ret
        exact ⟨endN_some HK.out, Bl.refl _⟩
  · have HV : Hid (vlen l = (qlen (l.drop 1)).map (1 + ·)) := by show vlen l = _; unfold vlen; rw [if_pos hp]
    clear hp
    go_wp2_with fail
    refine (tquoted_any l 1 h1 hl _).mono ?_
    rintro e w' ⟨rfl, rfl⟩
    rw [quoteAt_is, ← HV.out]
    cases hv : vlen l with
    | none => exact ⟨rfl, endN_none hv, Bl.refl _⟩
    | some k =>
      have HK := Lib.hid hv
      clear hv
      simp only [endN]
      go_wp2_with fail
      go_ret
      exact ⟨endN_some HK.out, Bl.refl _⟩

end Go.Proofs.YtdhaddldmooniaaGreatDoor
