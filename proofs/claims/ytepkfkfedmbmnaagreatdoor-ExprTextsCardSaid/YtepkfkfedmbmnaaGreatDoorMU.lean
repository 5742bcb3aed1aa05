/- The reference's small parts for tokens: letter, digit, end, quote. The reference's skip and sign. The reference's sign. The reference's one. The reference's one: signs. The reference's one: numbers. The reference's one: quotes; all. The reference's All. -/
import Derived.Test.YtepkfkfedmbmnaaGreatDoorMT
import Derived.Test.YtepkfkfedmbmnaaGreatDoorMR
import Derived.Deep.QuietTactic
import Derived.BigQuiet
import Derived.BigRegion
import Derived.RegionTactic
namespace Go.Proofs.YtepkfkfedmbmnaaGreatDoor
open Go.RowKit
set_option maxRecDepth 100000

theorem letterB_nat (c : UInt8) : letterB c = (decide (97 ≤ (c.toNat : Int)) && decide ((c.toNat : Int) ≤ 122) || ((c.toNat : Int) == 95)) := by
  have h : (c == 95) = ((c.toNat : Int) == 95) := by
    rw [Bool.eq_iff_iff]; simp only [beq_iff_eq]
    constructor
    · rintro rfl; rfl
    · intro e; exact UInt8.toNat_inj.1 (Int.ofNat_inj.1 e)
  unfold letterB
  rw [h, Bool.eq_iff_iff]
  simp [UInt8.le_iff_toNat_le]
  omega
theorem digitB_nat (c : UInt8) : digitB c = (decide (48 ≤ (c.toNat : Int)) && decide ((c.toNat : Int) ≤ 57)) := by
  unfold digitB
  rw [Bool.eq_iff_iff]
  simp [UInt8.le_iff_toNat_le]
  omega

theorem rletter_any (c : UInt8) (w : World) : Calls Tryz.prog 52 #[.int .u8 c.toNat] w fun e w' => e = .returned (.bool (letterB c)) ∧ w = w' := by
  have HL := Lib.hid (letterB_nat c)
  go_enter Tryz.func52, Tryz.ntmps52
  go_wp2
  all_goals
    go_ret
    exact ⟨ret_bool (by rw [HL.out]; first | (simp [*]; done) | (simp [*]; intros; omega)), rfl⟩
theorem rdigit15_any (c : UInt8) (w : World) : Calls Tryz.prog 54 #[.int .u8 c.toNat] w fun e w' => e = .returned (.bool (digitB c)) ∧ w = w' := by
  have HL := Lib.hid (digitB_nat c)
  go_enter Tryz.func54, Tryz.ntmps54
  go_wp2
  all_goals
    go_ret
    exact ⟨ret_bool (by rw [HL.out]; first | (simp [*]; done) | (simp [*]; intros; omega)), rfl⟩

theorem byte_no {c k : UInt8} (h : c ≠ k) {m : Int} (hm : (k.toNat : Int) = m) : ((c.toNat : Int) == m) = false := by
  rw [beq_eq_false_iff_ne, ← hm]
  intro e
  exact h (UInt8.toNat_inj.1 (Int.ofNat_inj.1 e))
theorem byte_ne {c k : UInt8} (h : c ≠ k) {m : Int} (hm : (k.toNat : Int) = m) : ((c.toNat : Int) != m) = true := by
  unfold bne; rw [byte_no h hm]; rfl

def wdB (b : Bool) : UInt8 → Bool := if b then wordB else digitB
theorem wdB_at (b : Bool) (c : UInt8) : wdB b c = (digitB c || (b && letterB c)) := by
  cases b
  · simp [wdB]
  · simp [wdB, wordB, Bool.or_comm]

set_option maxHeartbeats 1000000 in
theorem rend_any (b : Bool) (l : List UInt8) (k : Nat) (hk : k ≤ l.length) (hl : l.length ≤ 1000000) (w : World) : Calls Tryz.prog 53 #[S l, .int .i64 k, .bool b] w fun e w' => e = .returned (.int .i64 ((k + runB (wdB b) (l.drop k) : Nat) : Int)) ∧ w = w' := by
  go_enter Tryz.func53, Tryz.ntmps53
  go_wp2_with fail
  go_loop [1] (fun i => ∃ j : Nat, k ≤ j ∧ j ≤ l.length ∧ i = .int .i64 j ∧ Hid (∀ c ∈ (l.drop k).take (j - k), wdB b c = true)) (fun i => l.length - (intOf i).toNat)
  case atStart => exact ⟨k, by omega, hk, rfl, fun c hc => by simp at hc⟩
  case round =>
    obtain ⟨j, hj1, hj2, rfl, HT⟩ := hrel
    have hfin : Stops (wdB b) (l.drop j) → j = k + runB (wdB b) (l.drop k) := fun hs => by
      have := runB_at (l := l.drop k) (i := j - k) HT.out (by rw [List.drop_drop, show k + (j - k) = j by omega]; exact hs) (by simp; omega)
      omega
    have HF := Lib.hid hfin
    clear hfin
    by_cases hlt : j < l.length
    · have g1 := Lib.hid (get_byte l j (by rw [size_of_list]; exact hlt))
      generalize hc1 : (⟨l.toArray⟩ : ByteArray)[j]'(by rw [size_of_list]; exact hlt) = c at *
      cases hd : digitB c
      · cases b
        · have HS : Hid (Stops (wdB false) (l.drop j)) := by
            intro a ha
            rw [List.head?_drop, g1.out] at ha
            injection ha with ha
            rw [← ha, wdB_at, hd]; rfl
          go_wp2_with (first
            | (go_at_call 54; (with_reducible refine (rdigit15_any c _).mono ?_); rintro e w' ⟨rfl, rfl⟩; rw [hd])
            | (go_at_call 52; (with_reducible refine (rletter_any c _).mono ?_); rintro e w' ⟨rfl, rfl⟩))
          go_ret
          exact ⟨ret_int (by have := HF.out HS.out; omega), rfl⟩
        · cases hlet : letterB c
          · have HS : Hid (Stops (wdB true) (l.drop j)) := by
              intro a ha
              rw [List.head?_drop, g1.out] at ha
              injection ha with ha
              rw [← ha, wdB_at, hd, hlet]; rfl
            go_wp2_with (first
              | (go_at_call 54; (with_reducible refine (rdigit15_any c _).mono ?_); rintro e w' ⟨rfl, rfl⟩; rw [hd])
              | (go_at_call 52; (with_reducible refine (rletter_any c _).mono ?_); rintro e w' ⟨rfl, rfl⟩; rw [hlet]))
            go_ret
            exact ⟨ret_int (by have := HF.out HS.out; omega), rfl⟩
          · have HP : Hid (wdB true c = true) := by show wdB true c = true; rw [wdB_at, hd, hlet]; rfl
            go_wp2_with (first
              | (go_at_call 54; (with_reducible refine (rdigit15_any c _).mono ?_); rintro e w' ⟨rfl, rfl⟩; rw [hd])
              | (go_at_call 52; (with_reducible refine (rletter_any c _).mono ?_); rintro e w' ⟨rfl, rfl⟩; rw [hlet]))
            go_round
            case rel =>
              refine ⟨j + 1, by omega, by omega, by go_num, fun a ha => ?_⟩
              rw [show j + 1 - k = (j - k) + 1 by omega, List.take_add_one, List.getElem?_drop, show k + (j - k) = j by omega, g1.out] at ha
              simp at ha
              rcases ha with ha | rfl
              · exact HT.out a ha
              · exact HP.out
            case measure => simp [intOf]; omega
      · have HP : Hid (wdB b c = true) := by show wdB b c = true; rw [wdB_at, hd]; rfl
        go_wp2_with (first
          | (go_at_call 54; (with_reducible refine (rdigit15_any c _).mono ?_); rintro e w' ⟨rfl, rfl⟩; rw [hd])
          | (go_at_call 52; (with_reducible refine (rletter_any c _).mono ?_); rintro e w' ⟨rfl, rfl⟩))
        go_round
        case rel =>
          refine ⟨j + 1, by omega, by omega, by go_num, fun a ha => ?_⟩
          rw [show j + 1 - k = (j - k) + 1 by omega, List.take_add_one, List.getElem?_drop, show k + (j - k) = j by omega, g1.out] at ha
          simp at ha
          rcases ha with ha | rfl
          · exact HT.out a ha
          · exact HP.out
        case measure => simp [intOf]; omega
    · obtain rfl : j = l.length := by omega
      have HS : Hid (Stops (wdB b) (l.drop l.length)) := by intro a ha; simp at ha
      go_wp2_with fail
      go_ret
      exact ⟨ret_int (by have := HF.out HS.out; omega), rfl⟩

/-- Where a text between quotes ends that begins behind place n. -/
def rqEnd (l : List UInt8) (n : Nat) : Int := match qlen (l.drop n) with
  | some k => ((n + k : Nat) : Int)
  | none => -1
theorem QAt.rdone {l : List UInt8} {n i : Nat} (h : QAt l n i) (hi : i < l.length) (hc : l[i] = 39) (hd : (l.drop (i + 1)).head? ≠ some 39) : rqEnd l n = (i : Int) + 1 := by
  have : qlen (l.drop n) = some (1 + (i - n)) := by rw [h.2.2, List.drop_eq_getElem_cons hi, hc, qlen_end hd]; rfl
  unfold rqEnd
  rw [this]
  have := h.1
  simp only
  omega
theorem QAt.rnone {l : List UInt8} {n : Nat} (h : QAt l n l.length) : rqEnd l n = -1 := by
  have : qlen (l.drop n) = Option.none := by rw [h.2.2]; simp [qlen]
  unfold rqEnd
  rw [this]

set_option maxHeartbeats 1000000 in
theorem rquote15_any (l : List UInt8) (n : Nat) (hn : n < l.length) (hl : l.length ≤ 1000000) (w : World) : Calls Tryz.prog 55 #[S l, .int .i64 n] w fun e w' => e = .returned (.int .i64 (rqEnd l (n + 1))) ∧ w = w' := by
  go_enter Tryz.func55, Tryz.ntmps55
  go_wp2_with fail
  go_loop [5] (fun i => ∃ k : Nat, k ≤ l.length ∧ i = .int .i64 k ∧ Hid (QAt l (n + 1) k)) (fun i => l.length - (intOf i).toNat)
  case atStart => exact ⟨n + 1, hn, by go_num, ⟨Nat.le_refl _, hn, by simp⟩⟩
  case round =>
    obtain ⟨k, hk, rfl, HQ⟩ := hrel
    by_cases hlt : k < l.length
    · have g1 := Lib.hid (get_byte l k (by rw [size_of_list]; exact hlt))
      generalize hc1 : (⟨l.toArray⟩ : ByteArray)[k]'(by rw [size_of_list]; exact hlt) = c at *
      have HC : Hid (l[k] = c) := (of_get g1.out).symm
      by_cases hc : c = 39
      · have hcb : ((c.toNat : Int) != 39) = false := by rw [hc]; rfl
        by_cases hk1 : k + 1 < l.length
        · have g2 := Lib.hid (get_byte l (k + 1) (by rw [size_of_list]; exact hk1))
          generalize hc2 : (⟨l.toArray⟩ : ByteArray)[k + 1]'(by rw [size_of_list]; exact hk1) = d at *
          have HD : Hid (l[k + 1] = d) := (of_get g2.out).symm
          have x3 : ((k : Int) + 1).toNat = k + 1 := by omega
          by_cases hd : d = 39
          · have hdb : ((d.toNat : Int) == 39) = true := by rw [hd]; rfl
            have HC' := Lib.hid hc
            have HD' := Lib.hid hd
            clear hc hd
            go_wp2
            go_round
            case rel => exact ⟨k + 2, by omega, by go_num, HQ.out.pair hk1 (HC.out.trans HC'.out) (HD.out.trans HD'.out)⟩
            case measure => simp [intOf]; omega
          · have hdb : ((d.toNat : Int) == 39) = false := byte_no hd rfl
            have HC' := Lib.hid hc
            have HD' := Lib.hid hd
            clear hc hd
            go_wp2
            go_ret
            exact ⟨ret_int (HQ.out.rdone hlt (HC.out.trans HC'.out) (by rw [List.head?_drop, List.getElem?_eq_getElem hk1, HD.out]; simpa using HD'.out)).symm, rfl⟩
        · have hk2 : k + 1 = l.length := by omega
          have HK2 := Lib.hid hk2
          have HC' := Lib.hid hc
          have hnl : ¬ ((k : Int) + 1 < (l.length : Int)) := by omega
          clear hc hk2
          go_wp2
          go_ret
          exact ⟨ret_int (HQ.out.rdone hlt (HC.out.trans HC'.out) (by rw [HK2.out, List.drop_length]; simp)).symm, rfl⟩
      · have hcb : ((c.toNat : Int) != 39) = true := byte_ne hc rfl
        have hcb' : ((c.toNat : Int) == 39) = false := byte_no hc rfl
        have HC' := Lib.hid hc
        clear hc
        go_wp2
        go_round
        case rel => exact ⟨k + 1, by omega, by go_num, HQ.out.step hlt (by rw [HC.out]; exact HC'.out)⟩
        case measure => simp [intOf]; omega
    · obtain rfl : k = l.length := by omega
      go_wp2
      go_ret
      exact ⟨ret_int HQ.out.rnone.symm, rfl⟩

end Go.Proofs.YtepkfkfedmbmnaaGreatDoor

namespace Go.Proofs.YtepkfkfedmbmnaaGreatDoor
open Go.RowKit
set_option maxRecDepth 100000

/-- From place j on it is as from k on (b: within a remark). -/
def SkF (l : List UInt8) (k j : Nat) (b : Bool) : Prop := k ≤ j ∧ j ≤ l.length ∧ skipM b (l.drop j) = skipM false (l.drop k)
theorem SkF.blank {l : List UInt8} {k j : Nat} (h : SkF l k j false) {c : UInt8} (hc : l[j]? = some c) (hb : blankB c = true) : SkF l k (j + 1) false := by
  have hj := (List.getElem?_eq_some_iff.1 hc).1
  refine ⟨by have := h.1; omega, by omega, ?_⟩
  rw [← h.2.2, List.drop_eq_getElem_cons hj, skip_f, (List.getElem?_eq_some_iff.1 hc).2, if_pos hb]
theorem SkF.enter {l : List UInt8} {k j : Nat} (h : SkF l k j false) (hc : l[j]? = some 45) (hd : l[j + 1]? = some 45) : SkF l k j true := by
  refine ⟨h.1, h.2.1, ?_⟩
  rw [← h.2.2, skipM_remark ⟨by rw [List.head?_drop]; exact hc, by rw [List.getElem?_drop]; exact hd⟩]
theorem SkF.inside {l : List UInt8} {k j : Nat} (h : SkF l k j true) {c : UInt8} (hc : l[j]? = some c) (hb : c ≠ 10) : SkF l k (j + 1) true := by
  have hj := (List.getElem?_eq_some_iff.1 hc).1
  refine ⟨by have := h.1; omega, by omega, ?_⟩
  rw [← h.2.2, List.drop_eq_getElem_cons hj, skip_t, (List.getElem?_eq_some_iff.1 hc).2, if_neg hb]
theorem SkF.leave {l : List UInt8} {k j : Nat} (h : SkF l k j true) (hc : l[j]? = some 10 ∨ j = l.length) : SkF l k j false := by
  refine ⟨h.1, h.2.1, ?_⟩
  rw [← h.2.2]
  rcases hc with hc | rfl
  · have hj := (List.getElem?_eq_some_iff.1 hc).1
    rw [List.drop_eq_getElem_cons hj, skip_t, skip_f, (List.getElem?_eq_some_iff.1 hc).2, if_pos (by decide), if_pos rfl]
  · rw [List.drop_length, skip_nil, skip_nil]
theorem SkF.stay {l : List UInt8} {k j : Nat} (h : SkF l k j false) (hs : skipM false (l.drop j) = l.drop j) : l.length - (skipM false (l.drop k)).length = j := by
  rw [← h.2.2, hs]; simp; have := h.2.1; omega
theorem stay_of {l : List UInt8} {j : Nat} {c : UInt8} (hc : l[j]? = some c) (hb : blankB c = false) (h2 : ¬ (c = 45 ∧ l[j + 1]? = some 45)) : skipM false (l.drop j) = l.drop j := by
  refine skipM_stays ?_ ?_
  · intro a ha
    rw [List.head?_drop, hc] at ha
    injection ha with ha
    rw [← ha]; exact hb
  · rintro ⟨e1, e2⟩
    rw [List.head?_drop, hc] at e1
    injection e1 with e1
    rw [List.getElem?_drop] at e2
    exact h2 ⟨e1, e2⟩

set_option maxHeartbeats 4000000 in
theorem rskip_any (l : List UInt8) (k : Nat) (hk : k ≤ l.length) (hl : l.length ≤ 1000000) (w : World) : Calls Tryz.prog 32 #[S l, .int .i64 k] w fun e w' => e = .returned (.int .i64 ((l.length - (skipM false (l.drop k)).length : Nat) : Int)) ∧ w = w' := by
  go_enter Tryz.func32, Tryz.ntmps32
  go_wp2_with fail
  go_loop [1] (fun i => ∃ j : Nat, j ≤ l.length ∧ i = .int .i64 j ∧ Hid (SkF l k j false)) (fun i => l.length - (intOf i).toNat)
  case atStart => exact ⟨k, hk, rfl, ⟨Nat.le_refl _, hk, rfl⟩⟩
  case round =>
    obtain ⟨j, hj, rfl, HS⟩ := hrel
    by_cases hlt : j < l.length
    · have g1 := Lib.hid (get_byte l j (by rw [size_of_list]; exact hlt))
      generalize hc1 : (⟨l.toArray⟩ : ByteArray)[j]'(by rw [size_of_list]; exact hlt) = c at *
      by_cases hb : blankB c = true
      · have HB := Lib.hid (HS.out.blank g1.out hb)
        have hd : c = 32 ∨ c = 9 ∨ c = 10 ∨ c = 13 := by simpa [blankB, or_assoc] using hb
        clear hb
        rcases hd with rfl | rfl | rfl | rfl
        all_goals
          go_wp2
          go_round
          case rel => exact ⟨j + 1, by omega, by go_num, HB.out⟩
          case measure => simp [intOf]; omega
      · have hb' : blankB c = false := by simpa using hb
        have n1 : ((c.toNat : Int) == 32) = false := byte_no (k := 32) (fun e => hb (by rw [e]; rfl)) rfl
        have n2 : ((c.toNat : Int) == 9) = false := byte_no (k := 9) (fun e => hb (by rw [e]; rfl)) rfl
        have n3 : ((c.toNat : Int) == 10) = false := byte_no (k := 10) (fun e => hb (by rw [e]; rfl)) rfl
        have n4 : ((c.toNat : Int) == 13) = false := byte_no (k := 13) (fun e => hb (by rw [e]; rfl)) rfl
        have HB := Lib.hid hb'
        clear hb hb'
        by_cases h45 : c = 45
        · have n5 : ((c.toNat : Int) == 45) = true := by rw [h45]; rfl
          by_cases hj1 : j + 1 < l.length
          · have g2 := Lib.hid (get_byte l (j + 1) (by rw [size_of_list]; exact hj1))
            generalize hc2 : (⟨l.toArray⟩ : ByteArray)[j + 1]'(by rw [size_of_list]; exact hj1) = d at *
            have x3 : ((j : Int) + 1).toNat = j + 1 := by omega
            by_cases hd : d = 45
            · have n6 : ((d.toNat : Int) == 45) = true := by rw [hd]; rfl
              have HE := Lib.hid (HS.out.enter (by rw [g1.out, h45]) (by rw [g2.out, hd]))
              have H45 := Lib.hid h45
              clear h45 hd
              go_wp2_with fail
              clear n1 n2 n3 n4 n5 n6 hc1 hc2 x3
              go_loop [1] (fun i => ∃ m : Nat, j ≤ m ∧ m ≤ l.length ∧ i = .int .i64 m ∧ Hid (SkF l k m true)) (fun i => l.length - (intOf i).toNat)
              case atStart => exact ⟨j, Nat.le_refl _, hj, rfl, HE.out⟩
              case round =>
                obtain ⟨m, hm1, hm2, rfl, HM⟩ := hrel
                by_cases hml : m < l.length
                · have g3 := Lib.hid (get_byte l m (by rw [size_of_list]; exact hml))
                  generalize hc3 : (⟨l.toArray⟩ : ByteArray)[m]'(by rw [size_of_list]; exact hml) = a at *
                  by_cases ha : a = 10
                  · have na : ((a.toNat : Int) != 10) = false := by rw [ha]; rfl
                    have HL := Lib.hid (HM.out.leave (.inl (by rw [g3.out, ha])))
                    have hjm : j < m := by
                      rcases Nat.lt_or_eq_of_le hm1 with h | h
                      · exact h
                      · subst h
                        have := g3.out
                        rw [g1.out, ha, H45.out] at this
                        cases this
                    clear ha
                    go_wp2
                    go_round
                    case rel => exact ⟨m, by omega, rfl, HL.out⟩
                    case measure => simp [intOf]; omega
                  · have na : ((a.toNat : Int) != 10) = true := byte_ne ha rfl
                    have na' : ((a.toNat : Int) == 10) = false := byte_no ha rfl
                    have HI := Lib.hid (HM.out.inside g3.out ha)
                    clear ha
                    go_wp2
                    go_round
                    case rel => exact ⟨m + 1, by omega, by omega, by go_num, HI.out⟩
                    case measure => simp [intOf]; omega
                · obtain rfl : m = l.length := by omega
                  have HL := Lib.hid (HM.out.leave (.inr rfl))
                  go_wp2
                  go_round
                  case rel => exact ⟨l.length, by omega, rfl, HL.out⟩
                  case measure => simp [intOf]; omega
            · have n6 : ((d.toNat : Int) == 45) = false := byte_no hd rfl
              have HR := Lib.hid (HS.out.stay (stay_of g1.out HB.out (by rintro ⟨_, e⟩; rw [g2.out] at e; injection e with e; exact hd e)))
              clear hd h45
              go_wp2
              go_ret
              exact ⟨ret_int (by rw [HR.out]), rfl⟩
          · have HR := Lib.hid (HS.out.stay (stay_of g1.out HB.out (by rintro ⟨_, e⟩; have := (List.getElem?_eq_some_iff.1 e).1; omega)))
            have hnl : ¬ ((j : Int) + 1 < (l.length : Int)) := by omega
            clear h45
            go_wp2
            go_ret
            exact ⟨ret_int (by rw [HR.out]), rfl⟩
        · have n5 : ((c.toNat : Int) == 45) = false := byte_no h45 rfl
          have HR := Lib.hid (HS.out.stay (stay_of g1.out HB.out (fun e => h45 e.1)))
          clear h45
          go_wp2
          go_ret
          exact ⟨ret_int (by rw [HR.out]), rfl⟩
    · obtain rfl : j = l.length := by omega
      have HR := Lib.hid (HS.out.stay (by rw [List.drop_length]; rfl))
      go_wp2
      go_ret
      exact ⟨ret_int (by rw [HR.out]), rfl⟩

end Go.Proofs.YtepkfkfedmbmnaaGreatDoor

namespace Go.Proofs.YtepkfkfedmbmnaaGreatDoor
open Go.RowKit
set_option maxRecDepth 100000

theorem ext_mid (l : List UInt8) (n m : Nat) : (⟨l.toArray⟩ : ByteArray).extract n (n + m) = ⟨((l.drop n).take m).toArray⟩ := by
  apply ByteArray.ext
  apply Array.ext'
  simp
theorem prefix_take (a x : List UInt8) : Lib.hasPrefix a x = (a.take x.length == x) := by
  unfold Lib.hasPrefix
  rw [Bool.eq_iff_iff, List.isPrefixOf_iff_prefix, List.prefix_iff_eq_take, beq_iff_eq]
  exact ⟨fun h => h.symm, fun h => h.symm⟩
/-- None of the first k signs begins a text. -/
def NoSign (l : List UInt8) (k : Nat) : Prop := ∀ j, j < k → j < 17 → Lib.hasPrefix l (signL[j]!) = false
theorem find_first {α : Type} [Inhabited α] (p : α → Bool) : ∀ (l : List α) (k : Nat), k < l.length → (∀ j, j < k → p l[j]! = false) → p l[k]! = true → l.find? p = some l[k]!
  | [], k, h, _, _ => by simp at h
  | a :: l, 0, _, _, h => by simp at h; simp [h]
  | a :: l, k + 1, h, hn, hk => by
    have h0 := hn 0 (by omega)
    simp at h0
    have hk' : p l[k]! = true := by simpa using hk
    have := find_first p l k (by simpa using h) (fun j hj => by simpa using hn (j + 1) (by omega)) hk'
    simp [h0, this]
theorem NoSign.found {l : List UInt8} {k : Nat} (h : NoSign l k) (hk : k < 17) (hp : Lib.hasPrefix l signL[k]! = true) : signOf l = signL[k]! := by
  unfold signOf
  rw [find_first (fun x => Lib.hasPrefix l x) signL k hk (fun j hj => h j hj (by omega)) hp]
  rfl
theorem NoSign.none {l : List UInt8} (h : NoSign l 17) : signOf l = [] := by
  unfold signOf
  rw [List.find?_eq_none.2]
  · rfl
  · intro x hx
    obtain ⟨j, hj, rfl⟩ := List.mem_iff_getElem.1 hx
    have := h j hj hj
    simpa [hj] using this
theorem NoSign.next {l : List UInt8} {k : Nat} (h : NoSign l k) (hp : Lib.hasPrefix l signL[k]! = false) : NoSign l (k + 1) := fun j h1 h2 => by
  by_cases e : j = k
  · rw [e]; exact hp
  · exact h j (by omega) h2
theorem signL_len : ∀ k, k < 17 → signL[k]!.length ≤ 2
  | 0, _ => by decide | 1, _ => by decide | 2, _ => by decide | 3, _ => by decide | 4, _ => by decide | 5, _ => by decide | 6, _ => by decide | 7, _ => by decide | 8, _ => by decide
  | 9, _ => by decide | 10, _ => by decide | 11, _ => by decide | 12, _ => by decide | 13, _ => by decide | 14, _ => by decide | 15, _ => by decide | 16, _ => by decide
  | n + 17, h => absurd h (by omega)

set_option maxHeartbeats 4000000 in
theorem rsign_any (l : List UInt8) (n : Nat) (hn : n ≤ l.length) (hl : l.length ≤ 1000000) (w : World) : Calls Tryz.prog 56 #[S l, .int .i64 n] w fun e w' => e = .returned (S (signOf (l.drop n))) ∧ Bl w w' := by
  have HC0 := Lib.hid (heap_new w (.cells signC 9))
  go_enter Tryz.func56, Tryz.ntmps56
  go_wp2_with fail
  go_loopw [6] (fun i wr => ∃ k : Nat, k ≤ 17 ∧ i = .int .i64 k ∧ Hid (NoSign (l.drop n) k) ∧ Bl w wr ∧ Hid (wr.heap[w.heap.size]? = some (.cells signC 9 (0, 0)))) (fun i _ => 17 - (intOf i).toNat)
  case atStart => exact ⟨0, by omega, rfl, fun j h => by omega, (Bl.refl w).alloc _, HC0.out⟩
  case round =>
    obtain ⟨k, hk, rfl, HN, hB, HC⟩ := hrel
    by_cases hlt : k < 17
    · have hcell : wr.cell? ⟨w.heap.size, k, none⟩ = some (S signL[k]!) := by rw [Lib.cell_of_heap HC.out]; exact signC_get k hlt
      have hx2 := signL_len k hlt
      have HF : Hid (Lib.hasPrefix (l.drop n) signL[k]! = true → signOf (l.drop n) = signL[k]!) := fun h => HN.out.found hlt h
      have HX : Hid (Lib.hasPrefix (l.drop n) signL[k]! = false → NoSign (l.drop n) (k + 1)) := fun h => HN.out.next h
      have HP : Hid (Lib.hasPrefix (l.drop n) signL[k]! = ((l.drop n).take signL[k]!.length == signL[k]!)) := prefix_take _ _
      generalize signL[k]! = x at *
      by_cases hle : n + x.length ≤ l.length
      · have hmid := ext_mid l n x.length
        have x1 : IntKind.i64.wrap ((n : Int) + (x.length : Int)) = (n : Int) + (x.length : Int) := IntWalk.i64_in _ (by omega)
        have x2 : ((n : Int) + (x.length : Int)).toNat = n + x.length := by omega
        have x3 : decide ((n : Int) + (x.length : Int) ≤ (l.length : Int)) = true := by simp; omega
        have x4 : 0 ≤ (n : Int) + (x.length : Int) := by omega
        cases hp : ((l.drop n).take x.length == x)
        · have HQ : Hid (NoSign (l.drop n) (k + 1)) := HX.out (by rw [HP.out, hp])
          go_wp2_with fail
          go_quiet (fail)
          clear x1 x2 x3 x4 hmid hp
          go_wp2
          go_roundw
          case rel => exact ⟨k + 1, by omega, by go_num, HQ.out, hB.call (Bl.drewN _ _), HC.out⟩
          case measure => simp [intOf]; omega
        · have HQ : Hid (signOf (l.drop n) = x) := HF.out (by rw [HP.out, hp])
          go_wp2_with fail
          go_quiet (fail)
          clear x1 x2 x3 x4 hmid hp
          have hcell' : (wr.drewN nq).cell? ⟨w.heap.size, k, none⟩ = some (S x) := hcell
          go_wp2
          go_ret
          exact ⟨ret_S HQ.out.symm, hB.call (Bl.drewN _ _)⟩
      · have x1 : IntKind.i64.wrap ((n : Int) + (x.length : Int)) = (n : Int) + (x.length : Int) := IntWalk.i64_in _ (by omega)
        have x3 : decide ((n : Int) + (x.length : Int) ≤ (l.length : Int)) = false := by simp; omega
        have HQ : Hid (NoSign (l.drop n) (k + 1)) := HX.out (by
          rw [HP.out, beq_eq_false_iff_ne]
          intro e
          have := congrArg List.length e
          simp at this
          omega)
        go_wp2_with fail
        go_quiet (fail)
        clear x1 x3
        go_wp2
        go_roundw
        case rel => exact ⟨k + 1, by omega, by go_num, HQ.out, hB.call (Bl.drewN _ _), HC.out⟩
        case measure => simp [intOf]; omega
    · obtain rfl : k = 17 := by omega
      have HQ := Lib.hid HN.out.none
      go_wp2
      go_ret
      exact ⟨ret_S HQ.out.symm, hB⟩

end Go.Proofs.YtepkfkfedmbmnaaGreatDoor

namespace Go.Proofs.YtepkfkfedmbmnaaGreatDoor
open Go.RowKit
set_option maxRecDepth 100000

/-- What the reference's one answers. -/
def ROne (l : List UInt8) (n : Nat) (w : World) (e : Ending) (w' : World) : Prop :=
  (match one1 parseO (l.drop n) with
    | some x => e = .returned (.tuple #[TV x.1 n ((l.drop n).take x.2.1) x.2.2.1 x.2.2.2.1 x.2.2.2.2, .int .i64 ((n + x.2.1 : Nat) : Int), .int .i64 0])
    | none => ∃ (k p a b : Int) (t z : List UInt8), e = .returned (.tuple #[TV k p t a b z, .int .i64 0, .int .i64 250])) ∧ Bl w w'
theorem rone_none {l : List UInt8} {n : Nat} {w W : World} (h : one1 parseO (l.drop n) = none) (k p a b : Int) (t z : List UInt8) (hb : Bl w W) : ROne l n w (.returned (.tuple #[TV k p t a b z, .int .i64 0, .int .i64 250])) W := by
  refine ⟨?_, hb⟩
  rw [h]
  exact ⟨k, p, a, b, t, z, rfl⟩
theorem rone_some {l : List UInt8} {n : Nat} {w W : World} {k : Int} {m : Nat} {v1 v2 : Int} {v3 : List UInt8} (h : one1 parseO (l.drop n) = some (k, m, v1, v2, v3)) (hb : Bl w W) :
    ROne l n w (.returned (.tuple #[TV k n ((l.drop n).take m) v1 v2 v3, .int .i64 ((n : Int) + (m : Int)), .int .i64 0])) W := by
  refine ⟨?_, hb⟩
  rw [h]
  simp
theorem rone_ret {a : Act} {W : World} {b : Nat} {k p x y u ec : Int} {t z : List UInt8} {R : Ending → World → Prop} (h2 : a.tmps[4]? = some (.pointer (some ⟨b, 0, none⟩))) (h5 : a.tmps[5]? = some (.int .i64 u)) (h6 : a.tmps[6]? = some (.int .i64 ec)) (hd : a.defers = [])
    (hW : W.heap[b]? = some (.cells #[.int .i64 k, .int .i64 p, S t, .int .i64 x, .int .i64 y, S z] 53 (0, 0))) (hE : R (.returned (.tuple #[TV k p t x y z, .int .i64 u, .int .i64 ec])) W) : bodyPost Tryz.prog Tryz.f33 R .ret a W := by
  obtain ⟨⟨q0, q1, q2, q3, q4, q5⟩, -⟩ := cells6 hW
  obtain ⟨tm, d⟩ := a
  refine bodyPost_ret (v := .tuple #[TV k p t x y z, .int .i64 u, .int .i64 ec]) ?_ hd hE
  simp [results, Tryz.results33, go_sem, q0, q1, q2, q3, q4, q5, h2, h5, h6]
theorem one1_none {s : List UInt8} (h : cut1 s = none) : one1 parseO s = none := by unfold one1; rw [h]; rfl
theorem one1_plain {s : List UInt8} {k : Int} {m : Nat} (h : cut1 s = some (k, m)) (hk : k ≠ 2) : one1 parseO s = some (k, m, 0, 0, []) := by unfold one1 valOf; rw [h]; simp [hk]
theorem one1_value {s : List UInt8} {m : Nat} (h : cut1 s = some (2, m)) (he : (parseV (s.take m)).2.2.2 = 0) : one1 parseO s = some (2, m, (parseV (s.take m)).1, (parseV (s.take m)).2.1, (parseV (s.take m)).2.2.1) := by
  unfold one1 valOf parseO; rw [h]; simp [he]
theorem one1_bad {s : List UInt8} {m : Nat} (h : cut1 s = some (2, m)) (he : ¬ (parseV (s.take m)).2.2.2 = 0) : one1 parseO s = none := by
  unfold one1 valOf parseO; rw [h]; simp [he]

abbrev tok0 (n : Nat) : Obj := .cells #[.int .i64 0, .int .i64 (n : Int), .string ⟨#[]⟩, .int .i64 0, .int .i64 0, .string ⟨#[]⟩] 53
abbrev tokZ : Obj := .cells #[.int .i64 0, .int .i64 0, .string ⟨#[]⟩, .int .i64 0, .int .i64 0, .string ⟨#[]⟩] 53

theorem drop_at {l : List UInt8} {n : Nat} {c : UInt8} (h : l[n]? = some c) : l.drop n = c :: l.drop (n + 1) := by
  have hn := (List.getElem?_eq_some_iff.1 h).1
  rw [List.drop_eq_getElem_cons hn, (List.getElem?_eq_some_iff.1 h).2]
theorem signOf_take (s : List UInt8) : s.take (signOf s).length = signOf s := by
  unfold signOf
  cases h : signL.find? fun x => Lib.hasPrefix s x with
  | none => rfl
  | some x =>
    have := List.find?_some h
    rw [prefix_take] at this
    simpa using this
theorem digit_no_letter {c : UInt8} (h : digitB c = true) : letterB c = false := by
  have := bytes_all (q := fun c => !(digitB c) || !(letterB c)) (by decide +kernel) c
  simp only [h] at this
  simpa using this
theorem sets2_heap (W : World) (b : Nat) (u v : Value) {o : Obj} (h : W.heap[b]? = some o) : ((W.setCell ⟨b + 1, 0, none⟩ u).setCell ⟨b + 1, 2, none⟩ v).heap[b]? = some o :=
  (heap_set_other _ ⟨b + 1, 2, none⟩ _ _ (by simp)).trans ((heap_set_other _ ⟨b + 1, 0, none⟩ _ _ (by simp)).trans h)
theorem sets2_bl {w W : World} (u v : Value) (h : Bl w W) : Bl w ((W.setCell ⟨w.heap.size + 1, 0, none⟩ u).setCell ⟨w.heap.size + 1, 2, none⟩ v) := (h.set (by simp) _).set (by simp) _
theorem head_drop (l : List UInt8) (n : Nat) : (l.drop n).head? = l[n]? := List.head?_drop

set_option maxHeartbeats 4000000 in
theorem rone_word (l : List UInt8) (n : Nat) (c : UInt8) (hc : l[n]? = some c) (hl : l.length ≤ 10000) (hlet : letterB c = true) (hx : ¬ (c = 120 ∧ l[n + 1]? = some 39)) (w : World) : Calls Tryz.prog 33 #[S l, .int .i64 n] w (ROne l n w) := by
  have hn := (List.getElem?_eq_some_iff.1 hc).1
  have hs := drop_at hc
  have hcut : cut1 (l.drop n) = if runB wordB (l.drop n) ≤ 30 then some (1, runB wordB (l.drop n)) else none := by
    have e : runB wordB (c :: l.drop (n + 1)) = runB wordB (l.drop (n + 1)) + 1 := by rw [runB_cons, if_pos (by simp [wordB, hlet])]
    rw [hs, cut1_cons, if_pos ⟨hlet, by rw [head_drop]; exact hx⟩, e]
  have hr1 : 1 ≤ runB wordB (l.drop n) := by rw [hs, runB_cons, if_pos (by simp [wordB, hlet])]; omega
  have hr2 := runB_le wordB (l.drop n)
  have hr3 : n + runB wordB (l.drop n) ≤ l.length := by simp at hr2; omega
  have HCUT := Lib.hid hcut
  have HLET := Lib.hid hlet
  clear hcut hs hr2 hlet
  have g1 := Lib.hid hc
  have hby : (⟨l.toArray⟩ : ByteArray)[n]'(by rw [size_of_list]; exact hn) = c := by
    have := get_byte l n (by rw [size_of_list]; exact hn)
    rw [hc] at this; injection this with this; exact this.symm
  clear hc
  have hmid := ext_mid l n (runB wordB (l.drop n))
  have hgo : Hid (((c.toNat : Int) == 120) = false ∨ (((c.toNat : Int) == 120) = true ∧ (¬ n + 1 < l.length ∨ ∃ h : n + 1 < l.length, ∃ d : UInt8, (⟨l.toArray⟩ : ByteArray)[n + 1]'(by rw [size_of_list]; exact h) = d ∧ ((d.toNat : Int) == 39) = false))) := by
    by_cases h120 : c = 120
    · refine .inr ⟨by rw [h120]; rfl, ?_⟩
      by_cases h1 : n + 1 < l.length
      · refine .inr ⟨h1, _, rfl, byte_no (k := 39) ?_ rfl⟩
        intro e
        refine hx ⟨h120, ?_⟩
        rw [get_byte l (n + 1) (by rw [size_of_list]; exact h1), e]
      · exact .inl h1
    · exact .inl (byte_no h120 rfl)
  clear hx
  have x3 : ((n : Int) + 1).toNat = n + 1 := by omega
  have hru : wdB true = wordB := rfl
  have HRU := Lib.hid hru
  clear hru
  rcases hgo.out with hg | ⟨hg, hg2 | ⟨hn1, d, hd, hdb⟩⟩
  case' inr.inl => have hnl : ¬ ((n : Int) + 1 < (l.length : Int)) := by omega
  all_goals
    clear hgo
    go_enter Tryz.func33, Tryz.ntmps33
    go_wp2_with (first
      | (go_at_call 52; (with_reducible refine (rletter_any c _).mono ?_); rintro e w' ⟨rfl, rfl⟩; rw [HLET.out])
      | (go_at_call 53; (with_reducible refine (rend_any true l n (by omega) (by omega) _).mono ?_); rintro e w' ⟨rfl, rfl⟩; rw [HRU.out]))
    generalize runB wordB (l.drop n) = m at *
    have x5 : ((n : Int) + (m : Int)).toNat = n + m := by omega
    have x6 : 0 ≤ (n : Int) + (m : Int) := by omega
    have hnm : ((n + m : Nat) : Int) = (n : Int) + (m : Int) := by simp
    go_region
    by_cases h30 : m ≤ 30
    · have HO := Lib.hid (one1_plain (k := 1) (m := m) (by rw [HCUT.out, if_pos h30]) (by decide))
      go_wp2_with fail
      exact rone_ret (b := w.heap.size) rfl rfl rfl rfl (by show (World.alloc (World.alloc w _) _).heap[w.heap.size]? = _; rw [heap_old _ _ (by simp), heap_new]) (rone_some HO.out (((Bl.refl w).alloc _).alloc _).drew)
    · have HO := Lib.hid (one1_none (by rw [HCUT.out, if_neg h30]))
      go_wp2_with fail
      all_goals exact rone_ret (b := w.heap.size) rfl rfl rfl rfl (by show (World.alloc (World.alloc w _) _).heap[w.heap.size]? = _; rw [heap_old _ _ (by simp), heap_new]) (rone_none HO.out _ _ _ _ _ _ (((Bl.refl w).alloc _).alloc _).drew)

end Go.Proofs.YtepkfkfedmbmnaaGreatDoor

namespace Go.Proofs.YtepkfkfedmbmnaaGreatDoor
open Go.RowKit
set_option maxRecDepth 100000

set_option maxHeartbeats 4000000 in
theorem rone_sign (l : List UInt8) (n : Nat) (c : UInt8) (hc : l[n]? = some c) (hl : l.length ≤ 10000) (hlet : letterB c = false) (hdig : digitB c = false) (h39 : c ≠ 39) (w : World) : Calls Tryz.prog 33 #[S l, .int .i64 n] w (ROne l n w) := by
  have hn := (List.getElem?_eq_some_iff.1 hc).1
  have hs := drop_at hc
  have h120 : c ≠ 120 := by rintro rfl; exact absurd hlet (by decide)
  have hcut : cut1 (l.drop n) = if (signOf (l.drop n)).length = 0 then none else some (3, (signOf (l.drop n)).length) := by
    rw [hs, cut1_cons, if_neg (by rw [hlet]; simp), if_neg h39, if_neg h120, if_neg (by rw [hdig]; decide), signOf_length]
  have hpre : (l.drop n).take (signOf (l.drop n)).length = signOf (l.drop n) := signOf_take _
  have hby : (⟨l.toArray⟩ : ByteArray)[n]'(by rw [size_of_list]; exact hn) = c := by
    have := get_byte l n (by rw [size_of_list]; exact hn)
    rw [hc] at this; injection this with this; exact this.symm
  have n1 : ((c.toNat : Int) == 39) = false := byte_no h39 rfl
  have n2 : ((c.toNat : Int) == 120) = false := byte_no h120 rfl
  have HCUT := Lib.hid hcut
  have HPRE := Lib.hid hpre
  have HLET := Lib.hid hlet
  have HDIG := Lib.hid hdig
  clear hcut hpre hs hc hlet hdig h39 h120
  go_enter Tryz.func33, Tryz.ntmps33
  go_wp2_with (first
    | (go_at_call 52; (with_reducible refine (rletter_any c _).mono ?_); rintro e w' ⟨rfl, rfl⟩; rw [HLET.out])
    | (go_at_call 54; (with_reducible refine (rdigit15_any c _).mono ?_); rintro e w' ⟨rfl, rfl⟩; rw [HDIG.out]))
  (with_reducible refine (rsign_any l n (by omega) (by omega) _).mono ?_)
  rintro e w1 ⟨rfl, hb1⟩
  have hA : w1.heap[w.heap.size]? = some (.cells #[.int .i64 0, .int .i64 0, .string ⟨#[]⟩, .int .i64 0, .int .i64 0, .string ⟨#[]⟩] 53 (0, 0)) := by
    rw [hb1.block _ (by simp; omega), heap_old _ _ (by simp), heap_new]
  have hT : w1.heap[w.heap.size + 1]? = some (.cells #[.int .i64 0, .int .i64 (n : Int), .string ⟨#[]⟩, .int .i64 0, .int .i64 0, .string ⟨#[]⟩] 53 (0, 0)) := by
    rw [hb1.block _ (by simp), heap_new' _ _ (by simp)]
  have hB : Bl w w1 := (((Bl.refl w).alloc _).alloc _).call hb1
  generalize signOf (l.drop n) = x at *
  clear hb1 n1 n2 hby
  obtain ⟨⟨c0, c1, c2, c3, c4, c5⟩, ⟨f0, f1, f2, f3, f4, f5⟩⟩ := cells6 hA
  obtain ⟨⟨d0, d1, d2, d3, d4, d5⟩, ⟨k0, k1, k2, k3, k4, k5⟩⟩ := cells6 hT
  by_cases hx0 : x = []
  · subst hx0
    have HO := Lib.hid (one1_none (by rw [HCUT.out]; rfl))
    go_wp2_with fail
    have hA2 := sets2_heap w1 w.heap.size (.int .i64 3) (.string ⟨#[]⟩) hA
    have hB2 := sets2_bl (.int .i64 3) (.string ⟨#[]⟩) hB
    generalize (w1.setCell ⟨w.heap.size + 1, 0, none⟩ (.int .i64 3)).setCell ⟨w.heap.size + 1, 2, none⟩ (.string ⟨#[]⟩) = W2 at *
    exact rone_ret (b := w.heap.size) rfl rfl rfl rfl (heap_set6 W2 w.heap.size _ _ _ _ _ _ _ _ _ _ _ _ 53 hA2) (rone_none HO.out _ _ _ _ _ _ (bl_set6 hB2 (Nat.le_refl _) _ _ _ _ _ _))
  · have hxl : 1 ≤ x.length := by cases x with
      | nil => exact absurd rfl hx0
      | cons a r => simp
    have hxe : (x == []) = false := by simpa using hx0
    have hxi : x.isEmpty = false := by cases x with
      | nil => exact absurd rfl hx0
      | cons a r => rfl
    have HO := Lib.hid (one1_plain (k := 3) (m := x.length) (by rw [HCUT.out, if_neg (by omega)]) (by decide))
    have hxl2 : x.length ≤ 10000 := by have := congrArg List.length HPRE.out; simp at this; omega
    clear hx0
    go_wp2_with fail
    go_region
    have hA2 := sets2_heap w1 w.heap.size (.int .i64 3) (.string ⟨x.toArray⟩) hA
    have hB2 := sets2_bl (.int .i64 3) (.string ⟨x.toArray⟩) hB
    generalize (w1.setCell ⟨w.heap.size + 1, 0, none⟩ (.int .i64 3)).setCell ⟨w.heap.size + 1, 2, none⟩ (.string ⟨x.toArray⟩) = W2 at *
    clear c0 c1 c2 c3 c4 c5 f0 f1 f2 f3 f4 f5 d0 d1 d2 d3 d4 d5 k0 k1 k2 k3 k4 k5
    go_wp2_with fail
    have hS6 := heap_set6 W2 w.heap.size _ _ _ _ _ _ (.int .i64 3) (.int .i64 (n : Int)) (.string ⟨x.toArray⟩) (.int .i64 0) (.int .i64 0) (.string ⟨#[]⟩) 53 hA2
    have hB6 := bl_set6 hB2 (Nat.le_refl w.heap.size) (.int .i64 3) (.int .i64 (n : Int)) (.string ⟨x.toArray⟩) (.int .i64 0) (.int .i64 0) (.string ⟨#[]⟩)
    generalize (((((W2.setCell ⟨w.heap.size, 0, none⟩ (.int .i64 3)).setCell ⟨w.heap.size, 1, none⟩ (.int .i64 (n : Int))).setCell ⟨w.heap.size, 2, none⟩ (.string ⟨x.toArray⟩)).setCell ⟨w.heap.size, 3, none⟩ (.int .i64 0)).setCell ⟨w.heap.size, 4, none⟩ (.int .i64 0)).setCell ⟨w.heap.size, 5, none⟩ (.string ⟨#[]⟩) = W6 at *
    have hR := rone_some HO.out hB6.drew
    rw [HPRE.out] at hR
    have hS7 : W6.drew.heap[w.heap.size]? = _ := hS6
    exact rone_ret (b := w.heap.size) rfl rfl rfl rfl hS7 hR

end Go.Proofs.YtepkfkfedmbmnaaGreatDoor

namespace Go.Proofs.YtepkfkfedmbmnaaGreatDoor
open Go.RowKit
set_option maxRecDepth 100000

set_option maxHeartbeats 4000000 in
theorem rone_num (l : List UInt8) (n : Nat) (c : UInt8) (hc : l[n]? = some c) (hl : l.length ≤ 10000) (hdig : digitB c = true) (w : World) : Calls Tryz.prog 33 #[S l, .int .i64 n] w (ROne l n w) := by
  have hn := (List.getElem?_eq_some_iff.1 hc).1
  have hs := drop_at hc
  have hlet : letterB c = false := digit_no_letter hdig
  have h39 : c ≠ 39 := by rintro rfl; exact absurd hdig (by decide)
  have h120 : c ≠ 120 := by rintro rfl; exact absurd hdig (by decide)
  have hrun : runB digitB (l.drop n) = runB digitB (l.drop (n + 1)) + 1 := by rw [hs, runB_cons, if_pos hdig]
  have hcut : cut1 (l.drop n) = if (l[n + runB digitB (l.drop n)]?).map letterB = some true then none else some (2, runB digitB (l.drop n)) := by
    have e : ((l.drop (n + 1)).drop (runB digitB (l.drop (n + 1)))).head? = l[n + runB digitB (l.drop n)]? := by
      rw [List.drop_drop, List.head?_drop, hrun]; congr 1; omega
    rw [hs, cut1_cons, if_neg (by rw [hlet]; simp), if_neg h39, if_neg h120, if_pos hdig, e, ← hs, ← hrun]
  have hr2 := runB_le digitB (l.drop n)
  have hr3 : n + runB digitB (l.drop n) ≤ l.length := by simp at hr2; omega
  have hr1 : 1 ≤ runB digitB (l.drop n) := by omega
  have hby : (⟨l.toArray⟩ : ByteArray)[n]'(by rw [size_of_list]; exact hn) = c := by
    have := get_byte l n (by rw [size_of_list]; exact hn)
    rw [hc] at this; injection this with this; exact this.symm
  have HCUT0 := Lib.hid hcut
  have HLET := Lib.hid hlet
  have HDIG := Lib.hid hdig
  have HRU : Hid (wdB false = digitB) := rfl
  clear hcut hs hc hlet hdig h39 h120 hrun hr2
  go_enter Tryz.func33, Tryz.ntmps33
  go_wp2_with (first
    | (go_at_call 52; (with_reducible refine (rletter_any c _).mono ?_); rintro e w' ⟨rfl, rfl⟩; rw [HLET.out])
    | (go_at_call 54; (with_reducible refine (rdigit15_any c _).mono ?_); rintro e w' ⟨rfl, rfl⟩; rw [HDIG.out]))
  (with_reducible refine (rend_any false l n (by omega) (by omega) _).mono ?_)
  rintro e w' ⟨rfl, rfl⟩
  rw [HRU.out]
  generalize runB digitB (l.drop n) = m at *
  clear hby
  rw [show ((n + m : Nat) : Int) = (n : Int) + (m : Int) by simp]
  by_cases hend : n + m < l.length
  · have g2 := Lib.hid (get_byte l (n + m) (by rw [size_of_list]; exact hend))
    generalize hc2 : (⟨l.toArray⟩ : ByteArray)[n + m]'(by rw [size_of_list]; exact hend) = d at *
    have x2 : ((n : Int) + (m : Int)).toNat = n + m := by omega
    cases hld : letterB d
    · have HCUT : Hid (cut1 (l.drop n) = some (2, m)) := by show _ = _; rw [HCUT0.out, g2.out, if_neg (by simp [hld])]
      have HLD := Lib.hid hld
      clear hld
      go_wp2_with (first
        | (go_at_call 52; (with_reducible refine (rletter_any d _).mono ?_); rintro e w' ⟨rfl, rfl⟩; rw [HLD.out]))
      clear hc2 x2
      have x5 : ((n : Int) + (m : Int)).toNat = n + m := by omega
      have x6 : 0 ≤ (n : Int) + (m : Int) := by omega
      have x7 : ¬ ((n : Int) + (m : Int) < 0) := by omega
      have hmid := ext_mid l n m
      try (go_wp2_with fail)
      go_region
      clear x5 x6 x7 hmid
      have hlt3 : ((l.drop n).take m).length ≤ 10000 := by simp; omega
      generalize htx : (l.drop n).take m = tx at *
      have HTX := Lib.hid htx
      clear htx
      have hb0 : Bl w (((w.alloc tokZ).alloc (.cells #[.int .i64 2, .int .i64 (n : Int), .string ⟨tx.toArray⟩, .int .i64 0, .int .i64 0, .string ⟨#[]⟩] 53)).drew) := (((Bl.refl w).alloc _).alloc _).drew
      go_wp2_with fail
      (with_reducible refine (rParse_any tx hlt3 _).mono ?_)
      rintro e w1 ⟨he, hb1⟩
      unfold parseEnd at he
      subst he
      have hA : w1.heap[w.heap.size]? = some (.cells #[.int .i64 0, .int .i64 0, .string ⟨#[]⟩, .int .i64 0, .int .i64 0, .string ⟨#[]⟩] 53 (0, 0)) := by
        rw [hb1.block _ (by show _ < (World.alloc (World.alloc w _) _).heap.size; simp; omega)]
        show (World.alloc (World.alloc w _) _).heap[w.heap.size]? = _
        rw [heap_old _ _ (by simp), heap_new]
      have hT : w1.heap[w.heap.size + 1]? = some (.cells #[.int .i64 2, .int .i64 (n : Int), .string ⟨tx.toArray⟩, .int .i64 0, .int .i64 0, .string ⟨#[]⟩] 53 (0, 0)) := by
        rw [hb1.block _ (by show _ < (World.alloc (World.alloc w _) _).heap.size; simp)]
        show (World.alloc (World.alloc w _) _).heap[w.heap.size + 1]? = _
        rw [heap_new' _ _ (by simp)]
      have hB : Bl w w1 := hb0.call hb1
      clear hb0 hb1
      have HV : Hid ((parseV tx).2.2.2 = 0 → one1 parseO (l.drop n) = some (2, m, (parseV tx).1, (parseV tx).2.1, (parseV tx).2.2.1)) := by
        intro h
        have := one1_value HCUT.out (by rw [HTX.out]; exact h)
        rw [HTX.out] at this
        exact this
      have HX : Hid (¬ (parseV tx).2.2.2 = 0 → one1 parseO (l.drop n) = none) := fun h => one1_bad HCUT.out (by rw [HTX.out]; exact h)
      generalize parseV tx = pv at *
      obtain ⟨p1, p2, p3, pe⟩ := pv
      simp only at HV HX ⊢
      obtain ⟨⟨c0, c1, c2, c3, c4, c5⟩, ⟨f0, f1, f2, f3, f4, f5⟩⟩ := cells6 hA
      obtain ⟨⟨d0, d1, d2, d3, d4, d5⟩, ⟨k0, k1, k2, k3, k4, k5⟩⟩ := cells6 hT
      have hlt8 : w.heap.size + 1 < w1.heap.size := (Array.getElem?_eq_some_iff.1 hT).1
      have hltA : w.heap.size < w1.heap.size := by omega
      by_cases hpe : pe = 0
      · subst hpe
        have HV2 := Lib.hid (HV.out rfl)
        clear HV HX
        go_wp2_with fail
        clear c0 c1 c2 c3 c4 c5 f0 f1 f2 f3 f4 f5 d0 d1 d2 d3 d4 d5 k0 k1 k2 k3 k4 k5
        have hA5 : (((w1.setCell ⟨w.heap.size + 1, 3, none⟩ (.int .i64 p1)).setCell ⟨w.heap.size + 1, 4, none⟩ (.int .i64 p2)).setCell ⟨w.heap.size + 1, 5, none⟩ (.string ⟨p3.toArray⟩)).heap[w.heap.size]? = _ :=
          (heap_set_other _ ⟨w.heap.size + 1, 5, none⟩ _ _ (by simp)).trans ((heap_set_other _ ⟨w.heap.size + 1, 4, none⟩ _ _ (by simp)).trans ((heap_set_other _ ⟨w.heap.size + 1, 3, none⟩ _ _ (by simp)).trans hA))
        have hB5 : Bl w (((w1.setCell ⟨w.heap.size + 1, 3, none⟩ (.int .i64 p1)).setCell ⟨w.heap.size + 1, 4, none⟩ (.int .i64 p2)).setCell ⟨w.heap.size + 1, 5, none⟩ (.string ⟨p3.toArray⟩)) := ((hB.set (by simp) _).set (by simp) _).set (by simp) _
        generalize ((w1.setCell ⟨w.heap.size + 1, 3, none⟩ (.int .i64 p1)).setCell ⟨w.heap.size + 1, 4, none⟩ (.int .i64 p2)).setCell ⟨w.heap.size + 1, 5, none⟩ (.string ⟨p3.toArray⟩) = W5 at *
        have hS6 := heap_set6 W5 w.heap.size _ _ _ _ _ _ (.int .i64 2) (.int .i64 (n : Int)) (.string ⟨tx.toArray⟩) (.int .i64 p1) (.int .i64 p2) (.string ⟨p3.toArray⟩) 53 hA5
        have hB6 := bl_set6 hB5 (Nat.le_refl w.heap.size) (.int .i64 2) (.int .i64 (n : Int)) (.string ⟨tx.toArray⟩) (.int .i64 p1) (.int .i64 p2) (.string ⟨p3.toArray⟩)
        generalize (((((W5.setCell ⟨w.heap.size, 0, none⟩ (.int .i64 2)).setCell ⟨w.heap.size, 1, none⟩ (.int .i64 (n : Int))).setCell ⟨w.heap.size, 2, none⟩ (.string ⟨tx.toArray⟩)).setCell ⟨w.heap.size, 3, none⟩ (.int .i64 p1)).setCell ⟨w.heap.size, 4, none⟩ (.int .i64 p2)).setCell ⟨w.heap.size, 5, none⟩ (.string ⟨p3.toArray⟩) = W6 at *
        exact rone_ret (b := w.heap.size) rfl rfl rfl rfl ((heap_old W6 _ (Array.getElem?_eq_some_iff.1 hS6).1).trans hS6) (by
          have := rone_some HV2.out (hB6.alloc (.cells #[.int .i64 p1, .int .i64 p2, .string ⟨p3.toArray⟩] 26))
          rw [HTX.out] at this
          exact this)
      · have hpb : (pe != 0) = true := by simpa using hpe
        have hpb' : (pe == 0) = false := by simpa using hpe
        have HX2 := Lib.hid (HX.out hpe)
        clear HV HX
        go_wp2_with fail
        clear c0 c1 c2 c3 c4 c5 f0 f1 f2 f3 f4 f5 d0 d1 d2 d3 d4 d5 k0 k1 k2 k3 k4 k5
        have hS6 := heap_set6 w1 w.heap.size _ _ _ _ _ _ (.int .i64 2) (.int .i64 (n : Int)) (.string ⟨tx.toArray⟩) (.int .i64 0) (.int .i64 0) (.string ⟨#[]⟩) 53 hA
        have hB6 := bl_set6 hB (Nat.le_refl w.heap.size) (.int .i64 2) (.int .i64 (n : Int)) (.string ⟨tx.toArray⟩) (.int .i64 0) (.int .i64 0) (.string ⟨#[]⟩)
        generalize (((((w1.setCell ⟨w.heap.size, 0, none⟩ (.int .i64 2)).setCell ⟨w.heap.size, 1, none⟩ (.int .i64 (n : Int))).setCell ⟨w.heap.size, 2, none⟩ (.string ⟨tx.toArray⟩)).setCell ⟨w.heap.size, 3, none⟩ (.int .i64 0)).setCell ⟨w.heap.size, 4, none⟩ (.int .i64 0)).setCell ⟨w.heap.size, 5, none⟩ (.string ⟨#[]⟩) = W6 at *
        exact rone_ret (b := w.heap.size) rfl rfl rfl rfl ((heap_old W6 _ (Array.getElem?_eq_some_iff.1 hS6).1).trans hS6) (rone_none HX2.out _ _ _ _ _ _ (hB6.alloc _))
    · have HCUT : Hid (cut1 (l.drop n) = none) := by show _ = _; rw [HCUT0.out, g2.out, if_pos (by simp [hld])]
      have HLD := Lib.hid hld
      clear hld
      have HO := Lib.hid (one1_none HCUT.out)
      go_wp2_with (first
        | (go_at_call 52; (with_reducible refine (rletter_any d _).mono ?_); rintro e w' ⟨rfl, rfl⟩; rw [HLD.out]))
      exact rone_ret (b := w.heap.size) rfl rfl rfl rfl (by show (World.alloc (World.alloc w _) _).heap[w.heap.size]? = _; rw [heap_old _ _ (by simp), heap_new]) (rone_none HO.out _ _ _ _ _ _ (((Bl.refl w).alloc _).alloc _))
  · have HCUT : Hid (cut1 (l.drop n) = some (2, m)) := by show _ = _; rw [HCUT0.out, List.getElem?_eq_none (by omega), if_neg (by simp)]
    have hnl : ¬ ((n : Int) + (m : Int) < (l.length : Int)) := by omega
    go_wp2_with fail
    clear hnl
    have x5 : ((n : Int) + (m : Int)).toNat = n + m := by omega
    have x6 : 0 ≤ (n : Int) + (m : Int) := by omega
    have x7 : ¬ ((n : Int) + (m : Int) < 0) := by omega
    have hmid := ext_mid l n m
    try (go_wp2_with fail)
    go_region
    clear x5 x6 x7 hmid
    have hlt3 : ((l.drop n).take m).length ≤ 10000 := by simp; omega
    generalize htx : (l.drop n).take m = tx at *
    have HTX := Lib.hid htx
    clear htx
    have hb0 : Bl w (((w.alloc tokZ).alloc (.cells #[.int .i64 2, .int .i64 (n : Int), .string ⟨tx.toArray⟩, .int .i64 0, .int .i64 0, .string ⟨#[]⟩] 53)).drew) := (((Bl.refl w).alloc _).alloc _).drew
    go_wp2_with fail
    (with_reducible refine (rParse_any tx hlt3 _).mono ?_)
    rintro e w1 ⟨he, hb1⟩
    unfold parseEnd at he
    subst he
    have hA : w1.heap[w.heap.size]? = some (.cells #[.int .i64 0, .int .i64 0, .string ⟨#[]⟩, .int .i64 0, .int .i64 0, .string ⟨#[]⟩] 53 (0, 0)) := by
      rw [hb1.block _ (by show _ < (World.alloc (World.alloc w _) _).heap.size; simp; omega)]
      show (World.alloc (World.alloc w _) _).heap[w.heap.size]? = _
      rw [heap_old _ _ (by simp), heap_new]
    have hT : w1.heap[w.heap.size + 1]? = some (.cells #[.int .i64 2, .int .i64 (n : Int), .string ⟨tx.toArray⟩, .int .i64 0, .int .i64 0, .string ⟨#[]⟩] 53 (0, 0)) := by
      rw [hb1.block _ (by show _ < (World.alloc (World.alloc w _) _).heap.size; simp)]
      show (World.alloc (World.alloc w _) _).heap[w.heap.size + 1]? = _
      rw [heap_new' _ _ (by simp)]
    have hB : Bl w w1 := hb0.call hb1
    clear hb0 hb1
    have HV : Hid ((parseV tx).2.2.2 = 0 → one1 parseO (l.drop n) = some (2, m, (parseV tx).1, (parseV tx).2.1, (parseV tx).2.2.1)) := by
      intro h
      have := one1_value HCUT.out (by rw [HTX.out]; exact h)
      rw [HTX.out] at this
      exact this
    have HX : Hid (¬ (parseV tx).2.2.2 = 0 → one1 parseO (l.drop n) = none) := fun h => one1_bad HCUT.out (by rw [HTX.out]; exact h)
    generalize parseV tx = pv at *
    obtain ⟨p1, p2, p3, pe⟩ := pv
    simp only at HV HX ⊢
    obtain ⟨⟨c0, c1, c2, c3, c4, c5⟩, ⟨f0, f1, f2, f3, f4, f5⟩⟩ := cells6 hA
    obtain ⟨⟨d0, d1, d2, d3, d4, d5⟩, ⟨k0, k1, k2, k3, k4, k5⟩⟩ := cells6 hT
    have hlt8 : w.heap.size + 1 < w1.heap.size := (Array.getElem?_eq_some_iff.1 hT).1
    have hltA : w.heap.size < w1.heap.size := by omega
    by_cases hpe : pe = 0
    · subst hpe
      have HV2 := Lib.hid (HV.out rfl)
      clear HV HX
      go_wp2_with fail
      clear c0 c1 c2 c3 c4 c5 f0 f1 f2 f3 f4 f5 d0 d1 d2 d3 d4 d5 k0 k1 k2 k3 k4 k5
      have hA5 : (((w1.setCell ⟨w.heap.size + 1, 3, none⟩ (.int .i64 p1)).setCell ⟨w.heap.size + 1, 4, none⟩ (.int .i64 p2)).setCell ⟨w.heap.size + 1, 5, none⟩ (.string ⟨p3.toArray⟩)).heap[w.heap.size]? = _ :=
        (heap_set_other _ ⟨w.heap.size + 1, 5, none⟩ _ _ (by simp)).trans ((heap_set_other _ ⟨w.heap.size + 1, 4, none⟩ _ _ (by simp)).trans ((heap_set_other _ ⟨w.heap.size + 1, 3, none⟩ _ _ (by simp)).trans hA))
      have hB5 : Bl w (((w1.setCell ⟨w.heap.size + 1, 3, none⟩ (.int .i64 p1)).setCell ⟨w.heap.size + 1, 4, none⟩ (.int .i64 p2)).setCell ⟨w.heap.size + 1, 5, none⟩ (.string ⟨p3.toArray⟩)) := ((hB.set (by simp) _).set (by simp) _).set (by simp) _
      generalize ((w1.setCell ⟨w.heap.size + 1, 3, none⟩ (.int .i64 p1)).setCell ⟨w.heap.size + 1, 4, none⟩ (.int .i64 p2)).setCell ⟨w.heap.size + 1, 5, none⟩ (.string ⟨p3.toArray⟩) = W5 at *
      have hS6 := heap_set6 W5 w.heap.size _ _ _ _ _ _ (.int .i64 2) (.int .i64 (n : Int)) (.string ⟨tx.toArray⟩) (.int .i64 p1) (.int .i64 p2) (.string ⟨p3.toArray⟩) 53 hA5
      have hB6 := bl_set6 hB5 (Nat.le_refl w.heap.size) (.int .i64 2) (.int .i64 (n : Int)) (.string ⟨tx.toArray⟩) (.int .i64 p1) (.int .i64 p2) (.string ⟨p3.toArray⟩)
      generalize (((((W5.setCell ⟨w.heap.size, 0, none⟩ (.int .i64 2)).setCell ⟨w.heap.size, 1, none⟩ (.int .i64 (n : Int))).setCell ⟨w.heap.size, 2, none⟩ (.string ⟨tx.toArray⟩)).setCell ⟨w.heap.size, 3, none⟩ (.int .i64 p1)).setCell ⟨w.heap.size, 4, none⟩ (.int .i64 p2)).setCell ⟨w.heap.size, 5, none⟩ (.string ⟨p3.toArray⟩) = W6 at *
      exact rone_ret (b := w.heap.size) rfl rfl rfl rfl ((heap_old W6 _ (Array.getElem?_eq_some_iff.1 hS6).1).trans hS6) (by
        have := rone_some HV2.out (hB6.alloc (.cells #[.int .i64 p1, .int .i64 p2, .string ⟨p3.toArray⟩] 26))
        rw [HTX.out] at this
        exact this)
    · have hpb : (pe != 0) = true := by simpa using hpe
      have hpb' : (pe == 0) = false := by simpa using hpe
      have HX2 := Lib.hid (HX.out hpe)
      clear HV HX
      go_wp2_with fail
      clear c0 c1 c2 c3 c4 c5 f0 f1 f2 f3 f4 f5 d0 d1 d2 d3 d4 d5 k0 k1 k2 k3 k4 k5
      have hS6 := heap_set6 w1 w.heap.size _ _ _ _ _ _ (.int .i64 2) (.int .i64 (n : Int)) (.string ⟨tx.toArray⟩) (.int .i64 0) (.int .i64 0) (.string ⟨#[]⟩) 53 hA
      have hB6 := bl_set6 hB (Nat.le_refl w.heap.size) (.int .i64 2) (.int .i64 (n : Int)) (.string ⟨tx.toArray⟩) (.int .i64 0) (.int .i64 0) (.string ⟨#[]⟩)
      generalize (((((w1.setCell ⟨w.heap.size, 0, none⟩ (.int .i64 2)).setCell ⟨w.heap.size, 1, none⟩ (.int .i64 (n : Int))).setCell ⟨w.heap.size, 2, none⟩ (.string ⟨tx.toArray⟩)).setCell ⟨w.heap.size, 3, none⟩ (.int .i64 0)).setCell ⟨w.heap.size, 4, none⟩ (.int .i64 0)).setCell ⟨w.heap.size, 5, none⟩ (.string ⟨#[]⟩) = W6 at *
      exact rone_ret (b := w.heap.size) rfl rfl rfl rfl ((heap_old W6 _ (Array.getElem?_eq_some_iff.1 hS6).1).trans hS6) (rone_none HX2.out _ _ _ _ _ _ (hB6.alloc _))

end Go.Proofs.YtepkfkfedmbmnaaGreatDoor

namespace Go.Proofs.YtepkfkfedmbmnaaGreatDoor
open Go.RowKit
set_option maxRecDepth 100000

theorem rletter_39 (w : World) : Calls Tryz.prog 52 #[.int .u8 39] w fun e w' => e = .returned (.bool false) ∧ w = w' := rletter_any 39 w
theorem rdigit_39 (w : World) : Calls Tryz.prog 54 #[.int .u8 39] w fun e w' => e = .returned (.bool false) ∧ w = w' := rdigit15_any 39 w
theorem rletter_120 (w : World) : Calls Tryz.prog 52 #[.int .u8 120] w fun e w' => e = .returned (.bool true) ∧ w = w' := rletter_any 120 w
theorem rdigit_120 (w : World) : Calls Tryz.prog 54 #[.int .u8 120] w fun e w' => e = .returned (.bool false) ∧ w = w' := rdigit15_any 120 w
set_option maxHeartbeats 4000000 in
theorem rone_quote (l : List UInt8) (n : Nat) (hc : l[n]? = some 39) (hl : l.length ≤ 10000) (w : World) : Calls Tryz.prog 33 #[S l, .int .i64 n] w (ROne l n w) := by
  have hn := (List.getElem?_eq_some_iff.1 hc).1
  have hs := drop_at hc
  have hcut : cut1 (l.drop n) = (qlen (l.drop (n + 1))).map fun k => (2, k + 1) := by
    rw [hs, cut1_cons, if_neg (by simp [letterB]), if_pos rfl]
  have hby : (⟨l.toArray⟩ : ByteArray)[n]'(by rw [size_of_list]; exact hn) = 39 := by
    have := get_byte l n (by rw [size_of_list]; exact hn)
    rw [hc] at this; injection this with this; exact this.symm
  have HCUT0 := Lib.hid hcut
  have HQ : Hid (rqEnd l (n + 1) = match qlen (l.drop (n + 1)) with | some k => ((n + 1 + k : Nat) : Int) | none => -1) := rfl
  clear hcut hs hc
  go_enter Tryz.func33, Tryz.ntmps33
  go_wp2_with (first
    | (go_at_call 52; (with_reducible refine (rletter_39 _).mono ?_); rintro e w' ⟨rfl, rfl⟩)
    | (go_at_call 54; (with_reducible refine (rdigit_39 _).mono ?_); rintro e w' ⟨rfl, rfl⟩))
  (with_reducible refine (rquote15_any l n hn (by omega) _).mono ?_)
  rintro e w' ⟨rfl, rfl⟩
  rw [HQ.out]
  clear hby
  cases hq : qlen (l.drop (n + 1)) with
  | none =>
    have HO := Lib.hid (one1_none (s := l.drop n) (by rw [HCUT0.out, hq]; rfl))
    clear hq
    simp only
    go_wp2_with fail
    exact rone_ret (b := w.heap.size) rfl rfl rfl rfl (by show (World.alloc (World.alloc w _) _).heap[w.heap.size]? = _; rw [heap_old _ _ (by simp), heap_new]) (rone_none HO.out _ _ _ _ _ _ (((Bl.refl w).alloc _).alloc _))
  | some k =>
    have hk := qlen_le _ _ (Nat.le_refl _) _ hq
    have hk2 := hk.2
    simp at hk2
    obtain ⟨m, hm⟩ : ∃ m, m = k + 1 := ⟨_, rfl⟩
    have HCUT : Hid (cut1 (l.drop n) = some (2, m)) := by show _ = _; rw [HCUT0.out, hq, hm]; rfl
    have hr1 : 1 ≤ m := by omega
    have hr3 : n + m ≤ l.length := by omega
    simp only
    rw [show ((n + 1 + k : Nat) : Int) = (n : Int) + (m : Int) by omega]
    clear hq hk hk2 hm HQ HCUT0
    have x5 : ((n : Int) + (m : Int)).toNat = n + m := by omega
    have x6 : 0 ≤ (n : Int) + (m : Int) := by omega
    have x7 : ¬ ((n : Int) + (m : Int) < 0) := by omega
    have hmid := ext_mid l n m
    try (go_wp2_with fail)
    go_region
    clear x5 x6 x7 hmid
    have hlt3 : ((l.drop n).take m).length ≤ 10000 := by simp; omega
    generalize htx : (l.drop n).take m = tx at *
    have HTX := Lib.hid htx
    clear htx
    have hb0 : Bl w (((w.alloc tokZ).alloc (.cells #[.int .i64 2, .int .i64 (n : Int), .string ⟨tx.toArray⟩, .int .i64 0, .int .i64 0, .string ⟨#[]⟩] 53)).drew) := (((Bl.refl w).alloc _).alloc _).drew
    go_wp2_with fail
    (with_reducible refine (rParse_any tx hlt3 _).mono ?_)
    rintro e w1 ⟨he, hb1⟩
    unfold parseEnd at he
    subst he
    have hA : w1.heap[w.heap.size]? = some (.cells #[.int .i64 0, .int .i64 0, .string ⟨#[]⟩, .int .i64 0, .int .i64 0, .string ⟨#[]⟩] 53 (0, 0)) := by
      rw [hb1.block _ (by show _ < (World.alloc (World.alloc w _) _).heap.size; simp; omega)]
      show (World.alloc (World.alloc w _) _).heap[w.heap.size]? = _
      rw [heap_old _ _ (by simp), heap_new]
    have hT : w1.heap[w.heap.size + 1]? = some (.cells #[.int .i64 2, .int .i64 (n : Int), .string ⟨tx.toArray⟩, .int .i64 0, .int .i64 0, .string ⟨#[]⟩] 53 (0, 0)) := by
      rw [hb1.block _ (by show _ < (World.alloc (World.alloc w _) _).heap.size; simp)]
      show (World.alloc (World.alloc w _) _).heap[w.heap.size + 1]? = _
      rw [heap_new' _ _ (by simp)]
    have hB : Bl w w1 := hb0.call hb1
    clear hb0 hb1
    have HV : Hid ((parseV tx).2.2.2 = 0 → one1 parseO (l.drop n) = some (2, m, (parseV tx).1, (parseV tx).2.1, (parseV tx).2.2.1)) := by
      intro h
      have := one1_value HCUT.out (by rw [HTX.out]; exact h)
      rw [HTX.out] at this
      exact this
    have HX : Hid (¬ (parseV tx).2.2.2 = 0 → one1 parseO (l.drop n) = none) := fun h => one1_bad HCUT.out (by rw [HTX.out]; exact h)
    generalize parseV tx = pv at *
    obtain ⟨p1, p2, p3, pe⟩ := pv
    simp only at HV HX ⊢
    obtain ⟨⟨c0, c1, c2, c3, c4, c5⟩, ⟨f0, f1, f2, f3, f4, f5⟩⟩ := cells6 hA
    obtain ⟨⟨d0, d1, d2, d3, d4, d5⟩, ⟨k0, k1, k2, k3, k4, k5⟩⟩ := cells6 hT
    have hlt8 : w.heap.size + 1 < w1.heap.size := (Array.getElem?_eq_some_iff.1 hT).1
    have hltA : w.heap.size < w1.heap.size := by omega
    by_cases hpe : pe = 0
    · subst hpe
      have HV2 := Lib.hid (HV.out rfl)
      clear HV HX
      go_wp2_with fail
      clear c0 c1 c2 c3 c4 c5 f0 f1 f2 f3 f4 f5 d0 d1 d2 d3 d4 d5 k0 k1 k2 k3 k4 k5
      have hA5 : (((w1.setCell ⟨w.heap.size + 1, 3, none⟩ (.int .i64 p1)).setCell ⟨w.heap.size + 1, 4, none⟩ (.int .i64 p2)).setCell ⟨w.heap.size + 1, 5, none⟩ (.string ⟨p3.toArray⟩)).heap[w.heap.size]? = _ :=
        (heap_set_other _ ⟨w.heap.size + 1, 5, none⟩ _ _ (by simp)).trans ((heap_set_other _ ⟨w.heap.size + 1, 4, none⟩ _ _ (by simp)).trans ((heap_set_other _ ⟨w.heap.size + 1, 3, none⟩ _ _ (by simp)).trans hA))
      have hB5 : Bl w (((w1.setCell ⟨w.heap.size + 1, 3, none⟩ (.int .i64 p1)).setCell ⟨w.heap.size + 1, 4, none⟩ (.int .i64 p2)).setCell ⟨w.heap.size + 1, 5, none⟩ (.string ⟨p3.toArray⟩)) := ((hB.set (by simp) _).set (by simp) _).set (by simp) _
      generalize ((w1.setCell ⟨w.heap.size + 1, 3, none⟩ (.int .i64 p1)).setCell ⟨w.heap.size + 1, 4, none⟩ (.int .i64 p2)).setCell ⟨w.heap.size + 1, 5, none⟩ (.string ⟨p3.toArray⟩) = W5 at *
      have hS6 := heap_set6 W5 w.heap.size _ _ _ _ _ _ (.int .i64 2) (.int .i64 (n : Int)) (.string ⟨tx.toArray⟩) (.int .i64 p1) (.int .i64 p2) (.string ⟨p3.toArray⟩) 53 hA5
      have hB6 := bl_set6 hB5 (Nat.le_refl w.heap.size) (.int .i64 2) (.int .i64 (n : Int)) (.string ⟨tx.toArray⟩) (.int .i64 p1) (.int .i64 p2) (.string ⟨p3.toArray⟩)
      generalize (((((W5.setCell ⟨w.heap.size, 0, none⟩ (.int .i64 2)).setCell ⟨w.heap.size, 1, none⟩ (.int .i64 (n : Int))).setCell ⟨w.heap.size, 2, none⟩ (.string ⟨tx.toArray⟩)).setCell ⟨w.heap.size, 3, none⟩ (.int .i64 p1)).setCell ⟨w.heap.size, 4, none⟩ (.int .i64 p2)).setCell ⟨w.heap.size, 5, none⟩ (.string ⟨p3.toArray⟩) = W6 at *
      exact rone_ret (b := w.heap.size) rfl rfl rfl rfl ((heap_old W6 _ (Array.getElem?_eq_some_iff.1 hS6).1).trans hS6) (by
        have := rone_some HV2.out (hB6.alloc (.cells #[.int .i64 p1, .int .i64 p2, .string ⟨p3.toArray⟩] 26))
        rw [HTX.out] at this
        exact this)
    · have hpb : (pe != 0) = true := by simpa using hpe
      have hpb' : (pe == 0) = false := by simpa using hpe
      have HX2 := Lib.hid (HX.out hpe)
      clear HV HX
      go_wp2_with fail
      clear c0 c1 c2 c3 c4 c5 f0 f1 f2 f3 f4 f5 d0 d1 d2 d3 d4 d5 k0 k1 k2 k3 k4 k5
      have hS6 := heap_set6 w1 w.heap.size _ _ _ _ _ _ (.int .i64 2) (.int .i64 (n : Int)) (.string ⟨tx.toArray⟩) (.int .i64 0) (.int .i64 0) (.string ⟨#[]⟩) 53 hA
      have hB6 := bl_set6 hB (Nat.le_refl w.heap.size) (.int .i64 2) (.int .i64 (n : Int)) (.string ⟨tx.toArray⟩) (.int .i64 0) (.int .i64 0) (.string ⟨#[]⟩)
      generalize (((((w1.setCell ⟨w.heap.size, 0, none⟩ (.int .i64 2)).setCell ⟨w.heap.size, 1, none⟩ (.int .i64 (n : Int))).setCell ⟨w.heap.size, 2, none⟩ (.string ⟨tx.toArray⟩)).setCell ⟨w.heap.size, 3, none⟩ (.int .i64 0)).setCell ⟨w.heap.size, 4, none⟩ (.int .i64 0)).setCell ⟨w.heap.size, 5, none⟩ (.string ⟨#[]⟩) = W6 at *
      exact rone_ret (b := w.heap.size) rfl rfl rfl rfl ((heap_old W6 _ (Array.getElem?_eq_some_iff.1 hS6).1).trans hS6) (rone_none HX2.out _ _ _ _ _ _ (hB6.alloc _))
set_option maxHeartbeats 4000000 in
theorem rone_blob (l : List UInt8) (n : Nat) (hc : l[n]? = some 120) (hc2 : l[n + 1]? = some 39) (hl : l.length ≤ 10000) (w : World) : Calls Tryz.prog 33 #[S l, .int .i64 n] w (ROne l n w) := by
  have hn := (List.getElem?_eq_some_iff.1 hc).1
  have hn1 := (List.getElem?_eq_some_iff.1 hc2).1
  have hs := drop_at hc
  have hcut : cut1 (l.drop n) = (qlen (l.drop (n + 2))).map fun k => (2, k + 2) := by
    rw [hs, cut1_cons, if_neg (by rw [head_drop, hc2]; simp), if_neg (by decide), if_pos rfl, List.drop_drop]
  have hby : (⟨l.toArray⟩ : ByteArray)[n]'(by rw [size_of_list]; exact hn) = 120 := by
    have := get_byte l n (by rw [size_of_list]; exact hn)
    rw [hc] at this; injection this with this; exact this.symm
  have hby2 : (⟨l.toArray⟩ : ByteArray)[n + 1]'(by rw [size_of_list]; exact hn1) = 39 := by
    have := get_byte l (n + 1) (by rw [size_of_list]; exact hn1)
    rw [hc2] at this; injection this with this; exact this.symm
  have x3 : ((n : Int) + 1).toNat = n + 1 := by omega
  have HCUT0 := Lib.hid hcut
  have HQ : Hid (rqEnd l (n + 1 + 1) = match qlen (l.drop (n + 2)) with | some k => ((n + 2 + k : Nat) : Int) | none => -1) := rfl
  have HN1 : Hid (((n + 1 : Nat) : Int) = (n : Int) + 1) := by show _ = _; simp
  clear hcut hs hc hc2
  go_enter Tryz.func33, Tryz.ntmps33
  go_wp2_with (first
    | (go_at_call 52; (with_reducible refine (rletter_120 _).mono ?_); rintro e w' ⟨rfl, rfl⟩)
    | (go_at_call 54; (with_reducible refine (rdigit_120 _).mono ?_); rintro e w' ⟨rfl, rfl⟩))
  rw [← HN1.out]
  (with_reducible refine (rquote15_any l (n + 1) hn1 (by omega) _).mono ?_)
  rintro e w' ⟨rfl, rfl⟩
  rw [HQ.out]
  clear hby hby2 x3
  cases hq : qlen (l.drop (n + 2)) with
  | none =>
    have HO := Lib.hid (one1_none (s := l.drop n) (by rw [HCUT0.out, hq]; rfl))
    clear hq
    simp only
    go_wp2_with fail
    exact rone_ret (b := w.heap.size) rfl rfl rfl rfl (by show (World.alloc (World.alloc w _) _).heap[w.heap.size]? = _; rw [heap_old _ _ (by simp), heap_new]) (rone_none HO.out _ _ _ _ _ _ (((Bl.refl w).alloc _).alloc _))
  | some k =>
    have hk := qlen_le _ _ (Nat.le_refl _) _ hq
    have hk2 := hk.2
    simp at hk2
    obtain ⟨m, hm⟩ : ∃ m, m = k + 2 := ⟨_, rfl⟩
    have HCUT : Hid (cut1 (l.drop n) = some (2, m)) := by show _ = _; rw [HCUT0.out, hq, hm]; rfl
    have hr1 : 1 ≤ m := by omega
    have hr3 : n + m ≤ l.length := by omega
    simp only
    rw [show ((n + 2 + k : Nat) : Int) = (n : Int) + (m : Int) by omega]
    clear hq hk hk2 hm HQ HCUT0
    have x5 : ((n : Int) + (m : Int)).toNat = n + m := by omega
    have x6 : 0 ≤ (n : Int) + (m : Int) := by omega
    have x7 : ¬ ((n : Int) + (m : Int) < 0) := by omega
    have hmid := ext_mid l n m
    try (go_wp2_with fail)
    go_region
    clear x5 x6 x7 hmid
    have hlt3 : ((l.drop n).take m).length ≤ 10000 := by simp; omega
    generalize htx : (l.drop n).take m = tx at *
    have HTX := Lib.hid htx
    clear htx
    have hb0 : Bl w (((w.alloc tokZ).alloc (.cells #[.int .i64 2, .int .i64 (n : Int), .string ⟨tx.toArray⟩, .int .i64 0, .int .i64 0, .string ⟨#[]⟩] 53)).drew) := (((Bl.refl w).alloc _).alloc _).drew
    go_wp2_with fail
    (with_reducible refine (rParse_any tx hlt3 _).mono ?_)
    rintro e w1 ⟨he, hb1⟩
    unfold parseEnd at he
    subst he
    have hA : w1.heap[w.heap.size]? = some (.cells #[.int .i64 0, .int .i64 0, .string ⟨#[]⟩, .int .i64 0, .int .i64 0, .string ⟨#[]⟩] 53 (0, 0)) := by
      rw [hb1.block _ (by show _ < (World.alloc (World.alloc w _) _).heap.size; simp; omega)]
      show (World.alloc (World.alloc w _) _).heap[w.heap.size]? = _
      rw [heap_old _ _ (by simp), heap_new]
    have hT : w1.heap[w.heap.size + 1]? = some (.cells #[.int .i64 2, .int .i64 (n : Int), .string ⟨tx.toArray⟩, .int .i64 0, .int .i64 0, .string ⟨#[]⟩] 53 (0, 0)) := by
      rw [hb1.block _ (by show _ < (World.alloc (World.alloc w _) _).heap.size; simp)]
      show (World.alloc (World.alloc w _) _).heap[w.heap.size + 1]? = _
      rw [heap_new' _ _ (by simp)]
    have hB : Bl w w1 := hb0.call hb1
    clear hb0 hb1
    have HV : Hid ((parseV tx).2.2.2 = 0 → one1 parseO (l.drop n) = some (2, m, (parseV tx).1, (parseV tx).2.1, (parseV tx).2.2.1)) := by
      intro h
      have := one1_value HCUT.out (by rw [HTX.out]; exact h)
      rw [HTX.out] at this
      exact this
    have HX : Hid (¬ (parseV tx).2.2.2 = 0 → one1 parseO (l.drop n) = none) := fun h => one1_bad HCUT.out (by rw [HTX.out]; exact h)
    generalize parseV tx = pv at *
    obtain ⟨p1, p2, p3, pe⟩ := pv
    simp only at HV HX ⊢
    obtain ⟨⟨c0, c1, c2, c3, c4, c5⟩, ⟨f0, f1, f2, f3, f4, f5⟩⟩ := cells6 hA
    obtain ⟨⟨d0, d1, d2, d3, d4, d5⟩, ⟨k0, k1, k2, k3, k4, k5⟩⟩ := cells6 hT
    have hlt8 : w.heap.size + 1 < w1.heap.size := (Array.getElem?_eq_some_iff.1 hT).1
    have hltA : w.heap.size < w1.heap.size := by omega
    by_cases hpe : pe = 0
    · subst hpe
      have HV2 := Lib.hid (HV.out rfl)
      clear HV HX
      go_wp2_with fail
      clear c0 c1 c2 c3 c4 c5 f0 f1 f2 f3 f4 f5 d0 d1 d2 d3 d4 d5 k0 k1 k2 k3 k4 k5
      have hA5 : (((w1.setCell ⟨w.heap.size + 1, 3, none⟩ (.int .i64 p1)).setCell ⟨w.heap.size + 1, 4, none⟩ (.int .i64 p2)).setCell ⟨w.heap.size + 1, 5, none⟩ (.string ⟨p3.toArray⟩)).heap[w.heap.size]? = _ :=
        (heap_set_other _ ⟨w.heap.size + 1, 5, none⟩ _ _ (by simp)).trans ((heap_set_other _ ⟨w.heap.size + 1, 4, none⟩ _ _ (by simp)).trans ((heap_set_other _ ⟨w.heap.size + 1, 3, none⟩ _ _ (by simp)).trans hA))
      have hB5 : Bl w (((w1.setCell ⟨w.heap.size + 1, 3, none⟩ (.int .i64 p1)).setCell ⟨w.heap.size + 1, 4, none⟩ (.int .i64 p2)).setCell ⟨w.heap.size + 1, 5, none⟩ (.string ⟨p3.toArray⟩)) := ((hB.set (by simp) _).set (by simp) _).set (by simp) _
      generalize ((w1.setCell ⟨w.heap.size + 1, 3, none⟩ (.int .i64 p1)).setCell ⟨w.heap.size + 1, 4, none⟩ (.int .i64 p2)).setCell ⟨w.heap.size + 1, 5, none⟩ (.string ⟨p3.toArray⟩) = W5 at *
      have hS6 := heap_set6 W5 w.heap.size _ _ _ _ _ _ (.int .i64 2) (.int .i64 (n : Int)) (.string ⟨tx.toArray⟩) (.int .i64 p1) (.int .i64 p2) (.string ⟨p3.toArray⟩) 53 hA5
      have hB6 := bl_set6 hB5 (Nat.le_refl w.heap.size) (.int .i64 2) (.int .i64 (n : Int)) (.string ⟨tx.toArray⟩) (.int .i64 p1) (.int .i64 p2) (.string ⟨p3.toArray⟩)
      generalize (((((W5.setCell ⟨w.heap.size, 0, none⟩ (.int .i64 2)).setCell ⟨w.heap.size, 1, none⟩ (.int .i64 (n : Int))).setCell ⟨w.heap.size, 2, none⟩ (.string ⟨tx.toArray⟩)).setCell ⟨w.heap.size, 3, none⟩ (.int .i64 p1)).setCell ⟨w.heap.size, 4, none⟩ (.int .i64 p2)).setCell ⟨w.heap.size, 5, none⟩ (.string ⟨p3.toArray⟩) = W6 at *
      exact rone_ret (b := w.heap.size) rfl rfl rfl rfl ((heap_old W6 _ (Array.getElem?_eq_some_iff.1 hS6).1).trans hS6) (by
        have := rone_some HV2.out (hB6.alloc (.cells #[.int .i64 p1, .int .i64 p2, .string ⟨p3.toArray⟩] 26))
        rw [HTX.out] at this
        exact this)
    · have hpb : (pe != 0) = true := by simpa using hpe
      have hpb' : (pe == 0) = false := by simpa using hpe
      have HX2 := Lib.hid (HX.out hpe)
      clear HV HX
      go_wp2_with fail
      clear c0 c1 c2 c3 c4 c5 f0 f1 f2 f3 f4 f5 d0 d1 d2 d3 d4 d5 k0 k1 k2 k3 k4 k5
      have hS6 := heap_set6 w1 w.heap.size _ _ _ _ _ _ (.int .i64 2) (.int .i64 (n : Int)) (.string ⟨tx.toArray⟩) (.int .i64 0) (.int .i64 0) (.string ⟨#[]⟩) 53 hA
      have hB6 := bl_set6 hB (Nat.le_refl w.heap.size) (.int .i64 2) (.int .i64 (n : Int)) (.string ⟨tx.toArray⟩) (.int .i64 0) (.int .i64 0) (.string ⟨#[]⟩)
      generalize (((((w1.setCell ⟨w.heap.size, 0, none⟩ (.int .i64 2)).setCell ⟨w.heap.size, 1, none⟩ (.int .i64 (n : Int))).setCell ⟨w.heap.size, 2, none⟩ (.string ⟨tx.toArray⟩)).setCell ⟨w.heap.size, 3, none⟩ (.int .i64 0)).setCell ⟨w.heap.size, 4, none⟩ (.int .i64 0)).setCell ⟨w.heap.size, 5, none⟩ (.string ⟨#[]⟩) = W6 at *
      exact rone_ret (b := w.heap.size) rfl rfl rfl rfl ((heap_old W6 _ (Array.getElem?_eq_some_iff.1 hS6).1).trans hS6) (rone_none HX2.out _ _ _ _ _ _ (hB6.alloc _))

theorem rone_any (l : List UInt8) (n : Nat) (hn : n < l.length) (hl : l.length ≤ 10000) (w : World) : Calls Tryz.prog 33 #[S l, .int .i64 n] w (ROne l n w) := by
  have hc : l[n]? = some l[n] := List.getElem?_eq_getElem hn
  generalize l[n] = c at hc
  by_cases hx : c = 120 ∧ l[n + 1]? = some 39
  · exact rone_blob l n (by rw [hc, hx.1]) hx.2 hl w
  cases hlet : letterB c with
  | true => exact rone_word l n c hc hl hlet hx w
  | false =>
    cases hdig : digitB c with
    | true => exact rone_num l n c hc hl hdig w
    | false =>
      by_cases h39 : c = 39
      · subst h39; exact rone_quote l n hc hl w
      · exact rone_sign l n c hc hl hlet hdig h39 w

end Go.Proofs.YtepkfkfedmbmnaaGreatDoor

namespace Go.Proofs.YtepkfkfedmbmnaaGreatDoor
open Go.RowKit
set_option maxRecDepth 100000

theorem RdAt.next' {l : List UInt8} {k : Nat} {acc : List Tok} (h : RdAt l k acc) (hk : k < l.length) {x : Int × Nat × (Int × Int × List UInt8)} (h1 : one1 parseO (l.drop k) = some x) :
    RdAt l (l.length - (skipM false (l.drop (k + x.2.1))).length) (acc ++ [tokAt l k x]) := by
  have hle := one1_le h1
  have hkl := hle.2.1
  simp at hkl
  have hsl := skipM_le false (l.drop (k + x.2.1))
  simp at hsl
  have := h.next hk h1
  rw [show k + x.2.1 + ((l.drop (k + x.2.1)).length - (skipM false (l.drop (k + x.2.1))).length) = l.length - (skipM false (l.drop (k + x.2.1))).length by simp; omega] at this
  exact this

theorem rskip_0 (l : List UInt8) (hl : l.length ≤ 1000000) (w : World) : Calls Tryz.prog 32 #[S l, .int .i64 0] w fun e w' => e = .returned (.int .i64 ((l.length - (skipM false l).length : Nat) : Int)) ∧ w = w' := by
  have := rskip_any l 0 (by omega) hl w
  rw [List.drop_zero] at this
  exact this

set_option maxHeartbeats 1000000 in
theorem rAll_long (l : List UInt8) (h : 4000 < l.length) (hm : l.length ≤ 9223372036854775807) (w : World) : Calls Tryz.prog 13 #[S l] w (ReadPost l w) := by
  have HE : Hid (allErr l = 3) := by show allErr l = 3; unfold allErr; rw [if_pos h]
  have hb4 : decide (4000 < (l.length : Int)) = true := by simp; omega
  go_enter Tryz.func13, Tryz.ntmps13
  go_wp2_with fail
  go_ret2
  exact ⟨_, by rw [HE.out]; rfl, Bl.refl _, fun ts h0 => by rw [HE.out] at h0; cases h0⟩

set_option maxHeartbeats 4000000 in
theorem rAll_any (l : List UInt8) (hl : l.length ≤ 4000) (w : World) : Calls Tryz.prog 13 #[S l] w (ReadPost l w) := by
  have hb4 : decide (4000 < (l.length : Int)) = false := by simp; omega
  have hst := RdAt.start l
  have hk0 := hst.1
  go_enter Tryz.func13, Tryz.ntmps13
  go_wp2_with fail
  (with_reducible refine (rskip_0 l (by omega) _).mono ?_)
  rintro e w1 ⟨rfl, rfl⟩
  generalize l.length - (skipM false l).length = k0 at *
  have HST := Lib.hid hst
  clear hst
  go_wp2_with fail
  go_loopw [4, 5] (fun v i wr => ∃ (k : Nat) (acc : List Tok), k ≤ l.length ∧ i = .int .i64 k ∧ Hid (RdAt l k acc) ∧ Bl w wr ∧ wr.ownsRow w.heap.size 53 6 v acc.length (rowOf acc)) (fun _ i _ => l.length - (intOf i).toNat)
  case atStart => exact ⟨k0, [], hk0, rfl, HST.out, Bl.refl w, ⟨rfl, .inl ⟨rfl, rfl⟩⟩⟩
  case round =>
    obtain ⟨k, acc, hk, rfl, HR, hB, hown⟩ := hrel
    have hacc := HR.out.2.1
    obtain ⟨i0, hi, hz0, hz1, hz2⟩ := info_parts infoTok
    by_cases hlt : k < l.length
    · go_wp2_with fail
      (with_reducible refine (rone_any l k hlt (by omega) _).mono ?_)
      rintro e w2 ⟨he, hb2⟩
      have hB2 := hB.call hb2
      have hown2 := ownsRow_bl hb2 hown
      clear hown hb2 hB
      cases ho : one1 parseO (l.drop k) with
      | none =>
        rw [ho] at he
        obtain ⟨a1, a2, a3, a4, a5, a6, rfl⟩ := he
        have HE : Hid (allErr l = 250) := by show allErr l = 250; unfold allErr; rw [if_neg (by omega), if_pos (HR.out.bad hlt ho)]
        clear ho
        go_wp2_with fail
        go_ret2
        exact ⟨_, by rw [HE.out]; rfl, hB2.alloc _, fun ts h0 => by rw [HE.out] at h0; cases h0⟩
      | some x =>
        rw [ho] at he
        have hle := one1_le ho
        have hlx : k + x.2.1 ≤ l.length := by have := hle.2.1; simp at this; omega
        have HN := Lib.hid (HR.out.next' hlt ho)
        clear ho
        obtain ⟨x1, m, v1, v2, v3⟩ := x
        simp only at he HN hlx hle
        subst he
        generalize htx : (l.drop k).take m = tx at *
        have HTX := Lib.hid htx
        clear htx
        go_wp2_with (at_builtin; refine wpList_append_own _ rfl _ _ 42 rfl w.heap.size 53 i0 (.agg #[.int .i64 0, .int .i64 0, .string ⟨#[]⟩, .int .i64 0, .int .i64 0, .string ⟨#[]⟩]) 6 64 Tryz.underlying42 hi hz0 hz1 hz2 rfl (by decide) _ _ _ rfl ((hown2.alloc _).alloc _) ⟨w2.heap.size + 1, 0, none⟩ 1 1 [.int .i64 x1, .int .i64 (k : Int), S tx, .int .i64 v1, .int .i64 v2, S v3] rfl rfl ?c1 ?c2 ?c3 ?c4 ?c5 ?_)
        case c1 =>
          intro j u hj
          match j, hj with
          | 0, hj => simp at hj; subst hj; simp [Addr.add, go_sem]
          | 1, hj => simp at hj; subst hj; simp [Addr.add, go_sem]
          | 2, hj => simp at hj; subst hj; simp [Addr.add, go_sem]
          | 3, hj => simp at hj; subst hj; simp [Addr.add, go_sem]
          | 4, hj => simp at hj; subst hj; simp [Addr.add, go_sem]
          | 5, hj => simp at hj; subst hj; simp [Addr.add, go_sem]
        case c2 => intro u hu; simp at hu; rcases hu with rfl | rfl | rfl | rfl | rfl | rfl <;> rfl
        case c3 => unfold maxLen; omega
        case c4 => omega
        case c5 => have := hB2.size; simp; omega
        intro v' w4 hown4 hgrow _
        have hb4' : Bl w w4 := Below.grown ((hB2.alloc _).alloc _) hgrow (by have := hB2.size; simp; omega) (fun j hj => (hown2.lt j hj).1)
        have hrow : rowOf acc ++ [.int .i64 x1, .int .i64 (k : Int), S tx, .int .i64 v1, .int .i64 v2, S v3] = rowOf (acc ++ [tokAt l k (x1, m, v1, v2, v3)]) := by
          rw [rowOf_snoc]; simp [tokAt, tokCells, HTX.out]
        rw [hrow] at hown4
        have HO := Lib.hid hown4
        obtain ⟨g4, cap4, rfl⟩ := own_slice hown4
        clear hown4 hgrow hrow hB2 hown2
        go_wp2_with fail
        have hnm : ((k : Int) + (m : Int)) = ((k + m : Nat) : Int) := by simp
        first
          | (with_reducible refine (rskip_any l (k + m) hlx (by omega) _).mono ?_)
          | (rw [hnm]; (with_reducible refine (rskip_any l (k + m) hlx (by omega) _).mono ?_))
        rintro e w5 ⟨rfl, rfl⟩
        have hk5 := HN.out.1
        have hgt : k + m ≤ l.length - (skipM false (l.drop (k + m))).length := by have := skipM_le false (l.drop (k + m)); simp at this; omega
        generalize l.length - (skipM false (l.drop (k + m))).length = d at *
        clear hnm
        go_wp2
        go_roundw
        case rel => exact ⟨d, acc ++ [tokAt l k (x1, m, v1, v2, v3)], hk5, rfl, HN.out, hb4', by simpa using HO.out⟩
        case measure => simp [intOf]; omega
    · obtain rfl : k = l.length := by omega
      have hdone := HR.out.done
      have HD := Lib.hid hdone
      have HE : Hid (allErr l = 0) := by show allErr l = 0; unfold allErr; rw [if_neg (by omega), if_neg (by rw [hdone]; simp)]
      clear hdone
      go_wp2_with (at_builtin; refine wpList_append_own _ rfl _ _ 42 rfl w.heap.size 53 i0 (.agg #[.int .i64 0, .int .i64 0, .string ⟨#[]⟩, .int .i64 0, .int .i64 0, .string ⟨#[]⟩]) 6 64 Tryz.underlying42 hi hz0 hz1 hz2 rfl (by decide) _ _ _ rfl (hown.alloc _) ⟨wr.heap.size, 0, none⟩ 1 1 [.int .i64 4, .int .i64 (l.length : Int), .string ⟨#[]⟩, .int .i64 0, .int .i64 0, .string ⟨#[]⟩] rfl rfl ?d1 ?d2 ?d3 ?d4 ?d5 ?_)
      case d1 =>
        intro j u hj
        match j, hj with
        | 0, hj => simp at hj; subst hj; simp [Addr.add, go_sem]
        | 1, hj => simp at hj; subst hj; simp [Addr.add, go_sem]
        | 2, hj => simp at hj; subst hj; simp [Addr.add, go_sem]
        | 3, hj => simp at hj; subst hj; simp [Addr.add, go_sem]
        | 4, hj => simp at hj; subst hj; simp [Addr.add, go_sem]
        | 5, hj => simp at hj; subst hj; simp [Addr.add, go_sem]
      case d2 => intro u hu; simp at hu; rcases hu with rfl | rfl | rfl | rfl | rfl <;> rfl
      case d3 => unfold maxLen; omega
      case d4 => omega
      case d5 => have := hB.size; simp; omega
      intro v' w4 hown4 hgrow _
      have hb4' : Bl w w4 := Below.grown (hB.alloc _) hgrow (by have := hB.size; simp; omega) (fun j hj => (hown.lt j hj).1)
      have hrow : rowOf acc ++ [.int .i64 4, .int .i64 (l.length : Int), .string ⟨#[]⟩, .int .i64 0, .int .i64 0, .string ⟨#[]⟩] = rowOf (acc ++ [endTok l.length]) := by
        rw [rowOf_snoc]; simp [endTok, tokCells]
      rw [hrow] at hown4
      have HO := Lib.hid hown4
      clear hown4 hgrow hrow hB hown
      go_wp2_with fail
      go_ret2
      refine ⟨v', by rw [HE.out]; rfl, hb4', fun ts _ h1 => ?_⟩
      rw [HD.out] at h1
      injection h1 with h1
      subst h1
      exact HO.out

theorem rAll_all (l : List UInt8) (hm : l.length ≤ 9223372036854775807) (w : World) : Calls Tryz.prog 13 #[S l] w (ReadPost l w) := by
  by_cases h : l.length ≤ 4000
  · exact rAll_any l h w
  · exact rAll_long l (by omega) hm w

end Go.Proofs.YtepkfkfedmbmnaaGreatDoor

