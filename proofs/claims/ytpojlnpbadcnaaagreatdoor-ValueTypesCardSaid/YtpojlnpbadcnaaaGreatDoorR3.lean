/- The reference's Whole. -/
import Derived.Test.YtpojlnpbadcnaaaGreatDoorR2
import Derived.Test.YtpojlnpbadcnaaaGreatDoorVR
import Derived.Test.YtpojlnpbadcnaaaGreatDoorPN
namespace Go.Proofs.YtpojlnpbadcnaaaGreatDoor
open Go.RowKit
set_option maxRecDepth 100000

def I64 (n : Int) : Prop := -9223372036854775808 ≤ n ∧ n ≤ 9223372036854775807
/-- What the reference's Whole says of s. -/
def NW (s : List UInt8) (x : Int) (b : Bool) : Prop := (b = true → readNum s = some x) ∧ (b = false → readNum s = none)
def WholePost (s : List UInt8) (w : World) (e : Ending) (w' : World) : Prop := ∃ x b, e = .returned (.tuple #[.int .i64 x, .bool b]) ∧ w' = w ∧ NW s x b

theorem readNum_of {s : List UInt8} {x : Int} (h : I64 x) (hs : Lib.itoa x = s) : readNum s = some x := by
  subst hs; unfold readNum; rw [parse_itoa x h.1 h.2]; simp
theorem readNum_not {s : List UInt8} (h : ∀ n, I64 n → Lib.itoa n ≠ s) : readNum s = none := by
  cases hr : readNum s with
  | none => rfl
  | some x =>
    unfold readNum at hr
    split at hr
    · rename_i n hn
      split at hr
      · rename_i hi; exact absurd hi (h n (int64_of_parse hn))
      · cases hr
    · cases hr
theorem nw_no {s : List UInt8} (x : Int) (h : ∀ n, I64 n → Lib.itoa n ≠ s) : NW s x false := ⟨fun e => by simp at e, fun _ => readNum_not h⟩
theorem nw_end {s : List UInt8} {x : Int} {b : Bool} (h : I64 x) (hb : b = true ↔ Lib.itoa x = s) (hu : ∀ n, I64 n → Lib.itoa n = s → n = x) : NW s x b := by
  refine ⟨fun e => readNum_of h (hb.1 e), fun e => readNum_not fun n hn hi => ?_⟩
  have := hu n hn hi
  subst this
  rw [hb.2 hi] at e; exact absurd e (by simp)

/-- d: the digits of s, neg: whether s begins with a minus. -/
def Digs (s d : List UInt8) (neg : Bool) : Prop := ∀ n, Lib.itoa n = s → Lib.decDigits n.natAbs = d ∧ (n < 0 ↔ neg = true)
theorem digs_neg (d : List UInt8) : Digs (45 :: d) d true := fun n h => by
  have h1 := digs_itoa n
  have h2 := neg_itoa n
  rw [h] at h1 h2
  exact ⟨h1.symm, by simp at h2; simp [h2]⟩
theorem digs_pos (d : List UInt8) (h : d[0]? ≠ some 45) : Digs d d false := fun n hi => by
  have h1 := digs_itoa n
  have h2 := neg_itoa n
  rw [hi] at h1 h2
  refine ⟨?_, by rw [← h2]; simp [h]⟩
  rw [← h1]
  cases d with
  | nil => rfl
  | cons c r => unfold digs; simp only []; rw [if_neg]; simpa using h
theorem no_len {s d : List UInt8} {neg : Bool} (h : Digs s d neg) (hl : d.length = 0 ∨ 19 < d.length) : ∀ n, I64 n → Lib.itoa n ≠ s := fun n hn e => by
  have := (h n e).1
  have h1 := dec_len1 n.natAbs
  have h2 := dec_len19 n.natAbs (by unfold I64 at hn; omega)
  rw [this] at h1 h2; omega
theorem no_dig {s d : List UInt8} {neg : Bool} (h : Digs s d neg) {k : Nat} {c : UInt8} (hk : d[k]? = some c) (hc : ¬ isDig c) : ∀ n, I64 n → Lib.itoa n ≠ s := fun n hn e => by
  have h1 := (h n e).1
  have h2 := dec_dig n.natAbs
  rw [h1] at h2
  exact hc (h2 c (List.mem_of_getElem? hk))
theorem no_big {s d : List UInt8} {neg : Bool} (h : Digs s d neg) {k : Nat} (hk : 9223372036854775808 < dv (d.take k)) : ∀ n, I64 n → Lib.itoa n ≠ s := fun n hn e => by
  have h1 := (h n e).1
  have h2 := dv_take_le d k
  have h3 := dv_dec n.natAbs
  rw [h1] at h3
  unfold I64 at hn; omega
theorem no_top {s d : List UInt8} (h : Digs s d false) (hk : dv d = 9223372036854775808) : ∀ n, I64 n → Lib.itoa n ≠ s := fun n hn e => by
  have h1 := h n e
  have h3 := dv_dec n.natAbs
  rw [h1.1] at h3
  have h4 := h1.2
  simp at h4
  unfold I64 at hn; omega
theorem one_neg {s d : List UInt8} (h : Digs s d true) : ∀ n, I64 n → Lib.itoa n = s → n = -(dv d : Int) := fun n hn e => by
  have h1 := h n e
  have h3 := dv_dec n.natAbs
  rw [h1.1] at h3
  have h4 := h1.2
  simp at h4
  omega
theorem one_pos {s d : List UInt8} (h : Digs s d false) : ∀ n, I64 n → Lib.itoa n = s → n = (dv d : Int) := fun n hn e => by
  have h1 := h n e
  have h3 := dv_dec n.natAbs
  rw [h1.1] at h3
  have h4 := h1.2
  simp at h4
  omega
theorem dv_next {d : List UInt8} {k : Nat} {c : UInt8} (h : d[k]? = some c) : dv (d.take (k + 1)) = dv (d.take k) * 10 + (c.toNat - 48) := by
  rw [List.take_add_one, h]; exact dv_snoc _ _
theorem w64 (n : Int) (h : -9223372036854775808 ≤ n ∧ n ≤ 9223372036854775807) : wrap64 n = n := by unfold wrap64; omega
theorem quo_is (x : Nat) (h : x ≤ 9) : (-9223372036854775808 + (x : Int)).tdiv 10 = -((9223372036854775808 - (x : Int)) / 10) := by
  rw [show -9223372036854775808 + (x : Int) = -(9223372036854775808 - (x : Int)) by omega, Int.neg_tdiv, Int.tdiv_eq_ediv_of_nonneg (by omega)]

theorem over {d : List UInt8} {k v : Nat} {c : UInt8} (h : d[k]? = some c) (hv : dv (d.take k) = v) (h1 : 48 ≤ c.toNat) (h2 : c.toNat ≤ 57) (ho : -(v : Int) < (-9223372036854775808 + ((c.toNat : Int) - 48)).tdiv 10) : 9223372036854775808 < dv (d.take (k + 1)) := by
  rw [dv_next h, hv]
  have hq := quo_is (c.toNat - 48) (by omega)
  rw [show ((c.toNat - 48 : Nat) : Int) = (c.toNat : Int) - 48 by omega] at hq
  rw [hq] at ho
  omega
theorem under {v m : Nat} (h1 : 48 ≤ m) (h2 : m ≤ 57) (ho : (-9223372036854775808 + ((m : Int) - 48)).tdiv 10 ≤ -(v : Int)) : v * 10 + (m - 48) ≤ 9223372036854775808 := by
  have hq := quo_is (m - 48) (by omega)
  rw [show ((m - 48 : Nat) : Int) = (m : Int) - 48 by omega] at hq
  rw [hq] at ho
  omega

set_option maxHeartbeats 1000000 in
theorem rWhole_neg (d : List UInt8) (hl : d.length ≤ 10000) (w : World) : Calls Tryz.prog 41 #[S (45 :: d)] w (WholePost (45 :: d) w) := by
  have HG := Lib.hid (digs_neg d)
  have hcut : (⟨(45 :: d).toArray⟩ : ByteArray).extract 1 (d.length + 1) = ⟨d.toArray⟩ := by
    apply ByteArray.ext
    apply Array.ext'
    simp
  have h0 : (⟨(45 :: d).toArray⟩ : ByteArray)[0]'(by rw [size_of_list]; simp) = 45 := rfl
  go_enter Tryz.func41, Tryz.ntmps41
  go_wp2
  · subst d
    go_ret2
    exact ⟨0, false, rfl, rfl, nw_no 0 (no_len HG.out (Or.inl rfl))⟩
  · have hh := ‹_ ∨ (19 : Int) < _›
    go_ret2
    exact ⟨0, false, rfl, rfl, nw_no 0 (no_len HG.out (by rcases hh with hh | hh; simp at hh; simp [hh]; omega))⟩
  · rename _ ∧ _ ≤ (19 : Int) => hlast
    have hd19 : d.length ≤ 19 := by omega
    clear hlast h0 hcut
    go_loop [6, 7, 8] (fun a i _ => ∃ (k v : Nat), k ≤ d.length ∧ i = .int .i64 (k : Int) ∧ a = .int .i64 (-(v : Int)) ∧ v ≤ 9223372036854775808 ∧ Hid (dv (d.take k) = v)) (fun _ i _ => d.length - (intOf i).toNat)
    case atStart => exact ⟨0, 0, Nat.zero_le _, rfl, rfl, by omega, by show _ = _; simp [dv, dvA]⟩
    case round =>
      obtain ⟨k, v, hk, rfl, rfl, hv, HD⟩ := hrel
      by_cases hlt : k < d.length
      · have gk := get_byte d k (by rw [size_of_list]; exact hlt)
        have GK := Lib.hid gk
        clear gk
        generalize hm : (⟨d.toArray⟩ : ByteArray)[k]'(by rw [size_of_list]; exact hlt) = c at *
        go_wp2
        · have hh := ‹_ ∨ (57 : Int) < _›
          go_ret2
          exact ⟨0, false, rfl, rfl, nw_no 0 (no_dig HG.out GK.out (by unfold isDig; omega))⟩
        · have hh := ‹_ ∧ _ ≤ (57 : Int)›
          have ho := ‹-(v : Int) < _›
          go_ret2
          exact ⟨0, false, rfl, rfl, nw_no 0 (no_big HG.out (over GK.out HD.out (by omega) (by omega) ho))⟩
        · have hh := ‹_ ∧ _ ≤ (57 : Int)›
          have ho := ‹_ ≤ -(v : Int)›
          have hu := under (v := v) (m := c.toNat) (by omega) (by omega) ho
          go_round
          case rel =>
            refine ⟨k + 1, v * 10 + (c.toNat - 48), by omega, rfl, ?_, by omega, ?_⟩
            · rw [w64 (10 * -(v : Int)) (by omega), w64 _ (by omega)]
              exact congrArg _ (by omega)
            · show _ = _
              rw [dv_next GK.out, HD.out]
          case measure => simp [intOf]; omega
        · go_ret2
          exact ⟨0, false, rfl, rfl, nw_no 0 (no_dig HG.out GK.out (by unfold isDig; omega))⟩
      · obtain rfl : k = d.length := by omega
        have hD := HD.out
        rw [List.take_length] at hD
        go_wp2_with fail
        (with_reducible refine (rNumber_any _ (by omega) (by omega) _).mono ?_)
        rintro e w1 ⟨rfl, rfl⟩
        go_wp2
        go_ret2
        refine ⟨_, _, rfl, rfl, nw_end ⟨by omega, by omega⟩ ?_ (by rw [← hD]; exact one_neg HG.out)⟩
        exact beq_iff_eq

set_option maxHeartbeats 1000000 in
theorem rWhole_pos (d : List UInt8) (hn : d ≠ []) (h45 : d[0]? ≠ some 45) (hl : d.length ≤ 10000) (w : World) : Calls Tryz.prog 41 #[S d] w (WholePost d w) := by
  have HG := Lib.hid (digs_pos d h45)
  have hpos : 0 < d.length := List.length_pos_iff.2 hn
  have g0 := get_byte d 0 (by rw [size_of_list]; exact hpos)
  have h0 : ((((⟨d.toArray⟩ : ByteArray)[0]'(by rw [size_of_list]; exact hpos)).toNat : Int) == 45) = false := by
    rw [g0] at h45
    generalize (⟨d.toArray⟩ : ByteArray)[0]'(by rw [size_of_list]; exact hpos) = c at *
    cases hb : ((c.toNat : Int) == 45) with
    | false => rfl
    | true => exact absurd (congrArg some (byte_beq (b := 45) hb)) h45
  clear g0 h45 hn
  go_enter Tryz.func41, Tryz.ntmps41
  go_wp2
  · exact absurd ‹d = []› (by intro e; rw [e] at hpos; simp at hpos)
  · have hh := ‹_ ∨ (19 : Int) < _›
    go_ret2
    exact ⟨0, false, rfl, rfl, nw_no 0 (no_len HG.out (by rcases hh with hh | hh; simp at hh; simp [hh]; omega))⟩
  · rename _ ∧ _ ≤ (19 : Int) => hlast
    have hd19 : d.length ≤ 19 := by omega
    clear hlast h0
    go_loop [6, 7, 8] (fun a i _ => ∃ (k v : Nat), k ≤ d.length ∧ i = .int .i64 (k : Int) ∧ a = .int .i64 (-(v : Int)) ∧ v ≤ 9223372036854775808 ∧ Hid (dv (d.take k) = v)) (fun _ i _ => d.length - (intOf i).toNat)
    case atStart => exact ⟨0, 0, Nat.zero_le _, rfl, rfl, by omega, by show _ = _; simp [dv, dvA]⟩
    case round =>
      obtain ⟨k, v, hk, rfl, rfl, hv, HD⟩ := hrel
      by_cases hlt : k < d.length
      · have gk := get_byte d k (by rw [size_of_list]; exact hlt)
        have GK := Lib.hid gk
        clear gk
        generalize hm : (⟨d.toArray⟩ : ByteArray)[k]'(by rw [size_of_list]; exact hlt) = c at *
        go_wp2
        · have hh := ‹_ ∨ (57 : Int) < _›
          go_ret2
          exact ⟨0, false, rfl, rfl, nw_no 0 (no_dig HG.out GK.out (by unfold isDig; omega))⟩
        · have hh := ‹_ ∧ _ ≤ (57 : Int)›
          have ho := ‹-(v : Int) < _›
          go_ret2
          exact ⟨0, false, rfl, rfl, nw_no 0 (no_big HG.out (over GK.out HD.out (by omega) (by omega) ho))⟩
        · have hh := ‹_ ∧ _ ≤ (57 : Int)›
          have ho := ‹_ ≤ -(v : Int)›
          have hu := under (v := v) (m := c.toNat) (by omega) (by omega) ho
          go_round
          case rel =>
            refine ⟨k + 1, v * 10 + (c.toNat - 48), by omega, rfl, ?_, by omega, ?_⟩
            · rw [w64 (10 * -(v : Int)) (by omega), w64 _ (by omega)]
              exact congrArg _ (by omega)
            · show _ = _
              rw [dv_next GK.out, HD.out]
          case measure => simp [intOf]; omega
        · go_ret2
          exact ⟨0, false, rfl, rfl, nw_no 0 (no_dig HG.out GK.out (by unfold isDig; omega))⟩
      · obtain rfl : k = d.length := by omega
        have hD := HD.out
        rw [List.take_length] at hD
        by_cases hm : v = 9223372036854775808
        · subst hm
          go_wp2_with fail
          go_ret2
          exact ⟨0, false, rfl, rfl, nw_no 0 (no_top HG.out hD)⟩
        · have hmb : (-(v : Int) == -9223372036854775808) = false := by simp; omega
          go_wp2_with fail
          (with_reducible refine (rNumber_any _ (by omega) (by omega) _).mono ?_)
          rintro e w1 ⟨rfl, rfl⟩
          go_wp2
          go_ret2
          refine ⟨_, _, rfl, rfl, nw_end ⟨by omega, by omega⟩ ?_ (by rw [← hD]; exact one_pos HG.out)⟩
          exact beq_iff_eq

theorem rWhole_nil (w : World) : Calls Tryz.prog 41 #[S []] w (WholePost [] w) := by
  go_enter Tryz.func41, Tryz.ntmps41
  go_wp2
  go_ret2
  exact ⟨0, false, rfl, rfl, nw_no 0 (no_len (d := []) (digs_pos [] (by simp)) (Or.inl rfl))⟩

theorem rWhole_any (s : List UInt8) (hl : s.length ≤ 10000) (w : World) : Calls Tryz.prog 41 #[S s] w (WholePost s w) := by
  match s, hl with
  | [], _ => exact rWhole_nil w
  | c :: r, hl =>
    by_cases h : c = 45
    · subst h; exact rWhole_neg r (by simp at hl; omega) w
    · exact rWhole_pos (c :: r) (by simp) (by simpa using h) hl w

end Go.Proofs.YtpojlnpbadcnaaaGreatDoor
