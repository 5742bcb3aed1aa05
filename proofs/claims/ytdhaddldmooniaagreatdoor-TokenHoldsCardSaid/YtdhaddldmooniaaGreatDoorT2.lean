/- Package token: quoted, skip. -/
import Derived.Test.YtdhaddldmooniaaGreatDoorT1
import Derived.Lib.IndexLaws
namespace Go.Proofs.YtdhaddldmooniaaGreatDoor
open Go.RowKit
set_option maxRecDepth 100000

theorem HasPrefix_L (a b : List UInt8) (w : World) : Calls Tryz.prog 46 #[S a, S b] w fun e w' => e = .returned (.bool (Lib.hasPrefix a b)) ∧ w = w' :=
  (Tryz.strings_HasPrefix ⟨a.toArray⟩ ⟨b.toArray⟩ w).mono fun _ _ ⟨he, hw⟩ => ⟨he, hw.symm⟩
theorem SIndex_L (a : List UInt8) (c : UInt8) (w : World) : Calls Tryz.prog 47 #[S a, S [c]] w fun e w' => e = .returned (.int .i64 (Lib.indexByte a c)) ∧ w = w' :=
  (Tryz.strings_Index_one ⟨a.toArray⟩ c w).mono fun _ _ ⟨he, hw⟩ => ⟨he, hw.symm⟩

theorem hasPrefix_one (l : List UInt8) (c : UInt8) : Lib.hasPrefix l [c] = (l.head? == some c) := by
  cases l with
  | nil => rfl
  | cons d l => simp [Lib.hasPrefix, List.isPrefixOf]; exact Bool.beq_comm
theorem hasPrefix_two (l : List UInt8) (c d : UInt8) : Lib.hasPrefix l [c, d] = (l.head? == some c && l[1]? == some d) := by
  match l with
  | [] => rfl
  | [e] => simp [Lib.hasPrefix, List.isPrefixOf]
  | e :: f :: l => simp [Lib.hasPrefix, List.isPrefixOf]; rw [Bool.beq_comm (a := c), Bool.beq_comm (a := d)]

def quoteAt (l : List UInt8) (n : Nat) : Ending := match qlen (l.drop n) with
  | some k => .returned (.int .i64 ((n + k : Nat) : Int))
  | none => .panicked [{ v := .iface 25 (.int .i64 250), recovered := false }]
/-- From place i on it is as from n on. -/
def QAt (l : List UInt8) (n i : Nat) : Prop := n ≤ i ∧ i ≤ l.length ∧ qlen (l.drop n) = (qlen (l.drop i)).map (· + (i - n))
theorem QAt.step {l : List UInt8} {n i : Nat} (h : QAt l n i) (hi : i < l.length) (hc : l[i] ≠ 39) : QAt l n (i + 1) := by
  refine ⟨by have := h.1; omega, by omega, ?_⟩
  rw [h.2.2, List.drop_eq_getElem_cons hi, qlen_cons_ne hc, Option.map_map]
  congr 1
  funext x
  simp only [Function.comp]
  have := h.1; omega
theorem QAt.pair {l : List UInt8} {n i : Nat} (h : QAt l n i) (hi : i + 1 < l.length) (hc : l[i] = 39) (hd : l[i + 1] = 39) : QAt l n (i + 2) := by
  refine ⟨by have := h.1; omega, by omega, ?_⟩
  rw [h.2.2, List.drop_eq_getElem_cons (by omega), List.drop_eq_getElem_cons hi, hc, hd, qlen_pair, Option.map_map]
  congr 1
  funext x
  simp only [Function.comp]
  have := h.1; omega
theorem QAt.done {l : List UInt8} {n i : Nat} (h : QAt l n i) (hi : i < l.length) (hc : l[i] = 39) (hd : (l.drop (i + 1)).head? ≠ some 39) : quoteAt l n = .returned (.int .i64 ((i : Int) + 1)) := by
  have : qlen (l.drop n) = some (1 + (i - n)) := by rw [h.2.2, List.drop_eq_getElem_cons hi, hc, qlen_end hd]; rfl
  unfold quoteAt
  rw [this]
  have := h.1
  simp only
  congr 2
  omega
theorem QAt.none {l : List UInt8} {n : Nat} (h : QAt l n l.length) : quoteAt l n = .panicked [{ v := .iface 25 (.int .i64 250), recovered := false }] := by
  have : qlen (l.drop n) = Option.none := by rw [h.2.2]; simp [qlen]
  unfold quoteAt
  rw [this]

set_option maxHeartbeats 1000000 in
theorem tquoted_any (l : List UInt8) (n : Nat) (hn : n ≤ l.length) (hl : l.length ≤ 1000000) (w : World) : Calls Tryz.prog 60 #[S l, .int .i64 n] w fun e w' => e = quoteAt l n ∧ w = w' := by
  go_enter Tryz.func60, Tryz.ntmps60
  go_wp2_with fail
  go_loop [5] (fun i => ∃ k : Nat, k ≤ l.length ∧ i = .int .i64 k ∧ Hid (QAt l n k)) (fun i => l.length - (intOf i).toNat)
  case atStart => exact ⟨n, hn, rfl, ⟨Nat.le_refl _, hn, by simp⟩⟩
  case round =>
    obtain ⟨k, hk, rfl, HQ⟩ := hrel
    by_cases hlt : k < l.length
    · have hcut := ext_one l k hlt
      have htail := ext_tail l (k + 1)
      have HK : Hid (l[k] = l[k]) := rfl
      by_cases hc : l[k] = 39
      · have HC := Lib.hid hc
        rw [hc] at hcut
        clear hc HK
        go_wp2_with fail
        refine (HasPrefix_L (l.drop (k + 1)) [39] _).mono ?_
        rintro e w' ⟨rfl, rfl⟩
        rw [hasPrefix_one]
        clear hcut htail
        by_cases hd : (l.drop (k + 1)).head? = some 39
        · have hb : ((l.drop (k + 1)).head? == some 39) = true := by simp [hd]
          rw [hb]
          have hk1 : k + 1 < l.length := by
            rcases Nat.lt_or_ge (k + 1) l.length with h | h
            · exact h
            · rw [List.drop_of_length_le h] at hd; simp at hd
          have HD : Hid (l[k + 1] = 39) := by
            show l[k + 1] = 39
            rw [List.head?_drop, List.getElem?_eq_getElem hk1] at hd
            simpa using hd
          clear hb hd
          go_wp2
          go_round
          case rel => exact ⟨k + 2, by omega, by go_num, HQ.out.pair hk1 HC.out HD.out⟩
          case measure => simp [intOf]; omega
        · have hb : ((l.drop (k + 1)).head? == some 39) = false := by simpa using hd
          rw [hb]
          have HD := Lib.hid hd
          clear hb hd
          go_wp2
          go_ret
          exact ⟨(HQ.out.done hlt HC.out HD.out).symm, rfl⟩
      · have HC := Lib.hid hc
        have hb : ([l[k]] != [39]) = true := by simpa using hc
        have hb' : ([l[k]] == [39]) = false := by simpa using hc
        have hb2 : (l[k] != 39) = true := by simpa using hc
        have hb2' : (l[k] == 39) = false := by simpa using hc
        clear hc HK
        go_wp2
        go_round
        case rel => exact ⟨k + 1, by omega, by go_num, HQ.out.step hlt HC.out⟩
        case measure => simp [intOf]; omega
    · obtain rfl : k = l.length := by omega
      go_wp2
      exact ⟨rfl, HQ.out.none.symm, rfl⟩

/-- From place k on it is as from the beginning. -/
def SkAt (l : List UInt8) (k : Nat) : Prop := skipM false (l.drop k) = skipM false l
theorem SkAt.blanks {l : List UInt8} {k : Nat} (h : SkAt l k) : SkAt l (k + runB blankB (l.drop k)) ∧ Stops blankB (l.drop (k + runB blankB (l.drop k))) := by
  refine ⟨?_, by rw [← List.drop_drop]; exact runB_drop _ _⟩
  unfold SkAt at h ⊢
  rw [← h, ← List.drop_drop, ← skipM_blanks]
theorem SkAt.stays {l : List UInt8} {k : Nat} (hk : k ≤ l.length) (h : SkAt l k) (hs : Stops blankB (l.drop k)) (h2 : Lib.hasPrefix (l.drop k) [45, 45] = false) : l.length - (skipM false l).length = k := by
  rw [hasPrefix_two] at h2
  rw [← h, skipM_stays hs (by rintro ⟨h3, h4⟩; simp [h3, h4] at h2)]
  simp; omega
theorem SkAt.remark {l : List UInt8} {k : Nat} (h : SkAt l k) (h2 : Lib.hasPrefix (l.drop k) [45, 45] = true) : skipM true (l.drop k) = skipM false l ∧ (l.drop k).head? = some 45 := by
  rw [hasPrefix_two] at h2
  simp only [Bool.and_eq_true, beq_iff_eq] at h2
  exact ⟨by rw [← h, ← skipM_remark h2], h2.1⟩
theorem SkAt.last {l : List UInt8} {k : Nat} (h : SkAt l k) (h2 : Lib.hasPrefix (l.drop k) [45, 45] = true) (hn : Lib.indexByte (l.drop k) 10 < 0) : l.length - (skipM false l).length = l.length := by
  have hm : Lib.indexByte (l.drop k) 10 = -1 := by have := Lib.indexByte_ge (l.drop k) 10; omega
  have h3 := Lib.indexByte_none hm
  rw [← (h.remark h2).1, skipM_in_none]
  · simp
  · intro c hc e
    obtain ⟨j, hj⟩ := List.mem_iff_getElem?.1 hc
    exact h3 j (by rw [hj, e])
theorem SkAt.line {l : List UInt8} {k n : Nat} (h : SkAt l k) (h2 : Lib.hasPrefix (l.drop k) [45, 45] = true) (hn : Lib.indexByte (l.drop k) 10 = n) : SkAt l (k + n) ∧ k + n < l.length ∧ 1 ≤ n := by
  obtain ⟨h3, h4⟩ := Lib.indexByte_some hn
  obtain ⟨r1, r2⟩ := h.remark h2
  have hl := (List.getElem?_eq_some_iff.1 h3).1
  simp at hl
  refine ⟨?_, by omega, ?_⟩
  · unfold SkAt
    rw [← List.drop_drop, ← skipM_in n h3, r1]
    intro c hc e
    obtain ⟨j, hj⟩ := List.mem_iff_getElem?.1 hc
    rw [List.getElem?_take] at hj
    split at hj
    · rename_i hjn; exact h4 j hjn (by rw [hj, e])
    · cases hj
  · rcases Nat.eq_zero_or_pos n with rfl | h5
    · rw [List.head?_eq_getElem?] at r2
      rw [r2] at h3
      cases h3
    · exact h5

set_option maxHeartbeats 1000000 in
theorem tskip_any (l : List UInt8) (hl : l.length ≤ 1000000) (w : World) : Calls Tryz.prog 35 #[S l] w fun e w' => e = .returned (.int .i64 ((l.length - (skipM false l).length : Nat) : Int)) ∧ Bl w w' := by
  go_enter Tryz.func35, Tryz.ntmps35
  go_wp2_with fail
  go_loopw [3] (fun i wr => ∃ k : Nat, k ≤ l.length ∧ i = .int .i64 k ∧ Hid (SkAt l k) ∧ Bl w wr) (fun i _ => l.length - (intOf i).toNat)
  case atStart => exact ⟨0, by omega, rfl, rfl, Bl.refl w⟩
  case round =>
    obtain ⟨k, hk, rfl, HK, hB⟩ := hrel
    have htail := ext_tail l k
    have hr := runB_le blankB (l.drop k)
    have hr' : k + runB blankB (l.drop k) ≤ l.length := by simp at hr; omega
    have HB := Lib.hid (SkAt.blanks HK.out)
    go_wp2_with fail
    refine (trun_any set_blank (l.drop k) (by simp; omega) _).mono ?_
    rintro e w1 ⟨rfl, hb1⟩
    clear htail hr
    generalize runB blankB (l.drop k) = m at *
    have htail := ext_tail l (k + m)
    go_wp2_with fail
    refine (HasPrefix_L (l.drop (k + m)) [45, 45] _).mono ?_
    rintro e w' ⟨rfl, rfl⟩
    cases hp : Lib.hasPrefix (l.drop (k + m)) [45, 45]
    · have HP := Lib.hid hp
      clear hp
      go_wp2
      go_ret
      refine ⟨ret_int ?_, hB.call hb1⟩
      rw [SkAt.stays hr' HB.out.1 HB.out.2 HP.out]
      simp
    · have HP := Lib.hid hp
      clear hp
      go_wp2_with fail
      refine (SIndex_L (l.drop (k + m)) 10 _).mono ?_
      rintro e w' ⟨rfl, rfl⟩
      clear htail
      by_cases hn : Lib.indexByte (l.drop (k + m)) 10 < 0
      · have HL := Lib.hid (HB.out.1.last HP.out hn)
        generalize Lib.indexByte (l.drop (k + m)) 10 = n at *
        go_wp2
        go_ret
        exact ⟨ret_int (by rw [HL.out]), hB.call hb1⟩
      · obtain ⟨n, hn'⟩ : ∃ n : Nat, Lib.indexByte (l.drop (k + m)) 10 = n := ⟨(Lib.indexByte (l.drop (k + m)) 10).toNat, by omega⟩
        obtain ⟨q1, q2, q3⟩ := HB.out.1.line HP.out hn'
        have HQ := Lib.hid q1
        rw [hn']
        clear hn hn' q1
        go_wp2
        go_roundw
        case rel => exact ⟨k + m + n, by omega, by go_num, HQ.out, hB.call hb1⟩
        case measure => simp [intOf]; omega

end Go.Proofs.YtdhaddldmooniaaGreatDoor
