/- The reference's Number, digit. The reference's digit, quoted. The reference's Whole. The reference's Literal. The reference's Parse. -/
import Derived.Test.YtepkfkfedmbmnaaGreatDoorMG
import Derived.Test.YtepkfkfedmbmnaaGreatDoorMP
import Derived.Test.YtepkfkfedmbmnaaGreatDoorMV
import Derived.Lib.ItoaMem
import Derived.Lib.ItoaLen
namespace Go.Proofs.YtepkfkfedmbmnaaGreatDoor
open Go.RowKit
set_option maxRecDepth 100000

theorem digit_cut (d : Nat) (h : d < 10) : (⟨#[48, 49, 50, 51, 52, 53, 54, 55, 56, 57, 97, 98, 99, 100, 101, 102]⟩ : ByteArray).extract d (d + 1) = ⟨#[UInt8.ofNat (48 + d)]⟩ := by
  have : ∀ m : Fin 10, (⟨#[48, 49, 50, 51, 52, 53, 54, 55, 56, 57, 97, 98, 99, 100, 101, 102]⟩ : ByteArray).extract m.val (m.val + 1) = ⟨#[UInt8.ofNat (48 + m.val)]⟩ := by decide
  exact this ⟨d, h⟩

theorem dec_small {u : Nat} (h : u < 10) : Lib.decDigits u = [UInt8.ofNat (48 + u % 10)] := by rw [Lib.decDigits_one h, Nat.mod_eq_of_lt h]
theorem dec_big {u : Nat} (h : ¬ u < 10) : Lib.decDigits u = Lib.decDigits (u / 10) ++ [UInt8.ofNat (48 + u % 10)] := by rw [Lib.decDigits, dif_neg h]

theorem cut_cat (d : Nat) (h : d < 10) (t : List UInt8) : (⟨#[48, 49, 50, 51, 52, 53, 54, 55, 56, 57, 97, 98, 99, 100, 101, 102]⟩ : ByteArray).extract d (d + 1) ++ (⟨t.toArray⟩ : ByteArray) = ⟨(UInt8.ofNat (48 + d) :: t).toArray⟩ := by
  rw [digit_cut d h]
  apply ByteArray.ext
  simp
theorem dec_len {u : Nat} (h : u ≤ 9223372036854775808) : (Lib.decDigits u).length ≤ 21 := by
  by_cases h0 : u = 0
  · subst h0; rw [Lib.decDigits_one (by omega)]; decide
  have := Lib.itoa_length_le (-(u : Int)) (by omega) (by omega)
  rw [Lib.itoa_neg u (by omega)] at this
  simp at this; omega

set_option maxHeartbeats 1000000 in
theorem rNumber_pos (u : Nat) (hu : u ≤ 9223372036854775807) (w : World) : Calls Tryz.prog 78 #[.int .i64 (u : Int)] w fun e w' => e = .returned (S (Lib.decDigits u)) ∧ w' = w := by
  have hdl := dec_len (u := u) (by omega)
  go_enter Tryz.func78, Tryz.ntmps78
  go_wp2
  go_loop [3, 4] (fun a m => ∃ (v : Nat) (t : List UInt8), v ≤ u ∧ m = .int .i64 (v : Int) ∧ a = S t ∧ Hid (Lib.decDigits u = Lib.decDigits v ++ t)) (fun _ m => (intOf m).toNat)
  case atStart => exact ⟨u, [], Nat.le_refl _, rfl, rfl, by show _ = _; simp⟩
  case round =>
    obtain ⟨v, t, hv, rfl, rfl, HD⟩ := hrel
    have htl : t.length ≤ 21 := by have := congrArg List.length HD.out; simp at this; omega
    have hsz : ¬ 9223372036854775807 < min (v % 10 + 1) 16 - v % 10 + t.length := by omega
    have hcc := cut_cat (v % 10) (by omega) t
    have HCC := Lib.hid hcc
    clear hcc
    by_cases h10 : v < 10
    · have hb : ((v : Int) / 10 == 0) = true := by simp; omega
      go_wp2
      go_ret
      refine ⟨?_, rfl⟩
      rw [HCC.out, HD.out, dec_small h10]
      rfl
    · have hb : ((v : Int) / 10 == 0) = false := by simp; omega
      go_wp2
      go_round
      case rel =>
        refine ⟨v / 10, UInt8.ofNat (48 + v % 10) :: t, by omega, by go_num, by rw [HCC.out], ?_⟩
        show _ = _
        rw [HD.out, dec_big h10]; simp
      case measure => simp [intOf]; omega

set_option maxHeartbeats 1000000 in
theorem rNumber_neg (u : Nat) (h1 : 1 ≤ u) (hu : u ≤ 9223372036854775808) (w : World) : Calls Tryz.prog 78 #[.int .i64 (-(u : Int))] w fun e w' => e = .returned (S (45 :: Lib.decDigits u)) ∧ w' = w := by
  have hdl := dec_len hu
  go_enter Tryz.func78, Tryz.ntmps78
  go_wp2
  go_loop [3, 4] (fun a m => ∃ (v : Nat) (t : List UInt8), v ≤ u ∧ m = .int .i64 (-(v : Int)) ∧ a = S t ∧ Hid (Lib.decDigits u = Lib.decDigits v ++ t)) (fun _ m => (-(intOf m)).toNat)
  case atStart => exact ⟨u, [], Nat.le_refl _, rfl, rfl, by show _ = _; simp⟩
  case round =>
    obtain ⟨v, t, hv, rfl, rfl, HD⟩ := hrel
    have htl : t.length ≤ 21 := by have := congrArg List.length HD.out; simp at this; omega
    have m2 : (-(v : Int)).tdiv 10 = -((v / 10 : Nat) : Int) := by rw [Int.neg_tdiv]; rfl
    by_cases hz : v % 10 = 0
    · skip
      have m1 : (-(v : Int)).tmod 10 = 0 := by rw [Int.neg_tmod]; show -((v % 10 : Nat) : Int) = 0; omega
      have hsz : ¬ 9223372036854775807 < 1 + t.length := by omega
      have hcc : (⟨#[48, 49, 50, 51, 52, 53, 54, 55, 56, 57, 97, 98, 99, 100, 101, 102]⟩ : ByteArray).extract 0 1 ++ (⟨t.toArray⟩ : ByteArray) = ⟨(UInt8.ofNat (48 + v % 10) :: t).toArray⟩ := by rw [cut_cat 0 (by omega) t, hz]
      have HCC := Lib.hid hcc
      clear hcc
      have HZ := Lib.hid hz
      clear hz
      by_cases h10 : v < 10
      · have hb : (-((v : Int) / 10) == 0) = true := by simp; omega
        go_wp2
        go_ret
        refine ⟨?_, rfl⟩
        rw [HCC.out, HD.out, dec_small h10]
        exact ret_S (by simp)
      · have hb : (-((v : Int) / 10) == 0) = false := by simp; omega
        go_wp2
        go_round
        case rel =>
          refine ⟨v / 10, UInt8.ofNat (48 + v % 10) :: t, by omega, by go_num, by rw [HCC.out], ?_⟩
          show _ = _
          rw [HD.out, dec_big h10]; simp
        case measure => simp [intOf]; omega
    · skip
      have m1 : (-(v : Int)).tmod 10 = -((v % 10 : Nat) : Int) := by rw [Int.neg_tmod]; rfl
      have m3 : 0 < (v : Int) % 10 := by omega
      have hsz : ¬ 9223372036854775807 < min (v % 10 + 1) 16 - v % 10 + t.length := by omega
      have hcc := cut_cat (v % 10) (by omega) t
      have HCC := Lib.hid hcc
      clear hcc
      have HZ := Lib.hid hz
      clear hz
      by_cases h10 : v < 10
      · have hb : (-((v : Int) / 10) == 0) = true := by simp; omega
        go_wp2
        go_ret
        refine ⟨?_, rfl⟩
        rw [HCC.out, HD.out, dec_small h10]
        exact ret_S (by simp)
      · have hb : (-((v : Int) / 10) == 0) = false := by simp; omega
        go_wp2
        go_round
        case rel =>
          refine ⟨v / 10, UInt8.ofNat (48 + v % 10) :: t, by omega, by go_num, by rw [HCC.out], ?_⟩
          show _ = _
          rw [HD.out, dec_big h10]; simp
        case measure => simp [intOf]; omega

theorem rNumber_any (n : Int) (h0 : -9223372036854775808 ≤ n) (h1 : n ≤ 9223372036854775807) (w : World) : Calls Tryz.prog 78 #[.int .i64 n] w fun e w' => e = .returned (S (Lib.itoa n)) ∧ w' = w := by
  by_cases h : n < 0
  · obtain ⟨u, rfl⟩ : ∃ u : Nat, n = -(u : Int) := ⟨n.natAbs, by omega⟩
    rw [Lib.itoa_neg u (by omega)]
    exact rNumber_neg u (by omega) (by omega) w
  · obtain ⟨u, rfl⟩ : ∃ u : Nat, n = (u : Int) := ⟨n.toNat, by omega⟩
    rw [Lib.itoa_nonneg]
    exact rNumber_pos u (by omega) w

end Go.Proofs.YtepkfkfedmbmnaaGreatDoor

namespace Go.Proofs.YtepkfkfedmbmnaaGreatDoor
open Go.RowKit
set_option maxRecDepth 100000

theorem indexByte_first : ∀ (l : List UInt8) (c : UInt8) (k : Nat), (∀ j, j < k → l[j]? ≠ some c) → l[k]? = some c → Lib.indexByte l c = k
  | [], c, k, _, h => by simp at h
  | a :: r, c, 0, _, h => by simp at h; simp [Lib.indexByte, h]
  | a :: r, c, k + 1, hn, h => by
    have ha : a ≠ c := fun e => hn 0 (by omega) (by simp [e])
    have ih := indexByte_first r c k (fun j hj => by have := hn (j + 1) (by omega); simpa using this) (by simpa using h)
    simp [Lib.indexByte, ha, ih]
theorem indexByte_none : ∀ (l : List UInt8) (c : UInt8), (∀ j, j < l.length → l[j]? ≠ some c) → Lib.indexByte l c = -1
  | [], c, _ => rfl
  | a :: r, c, hn => by
    have ha : a ≠ c := fun e => hn 0 (by simp) (by simp [e])
    have ih := indexByte_none r c (fun j hj => by have := hn (j + 1) (by simp; omega); simpa using this)
    simp [Lib.indexByte, ha, ih]

theorem byte_beq {a b : UInt8} (h : ((a.toNat : Int) == (b.toNat : Int)) = true) : a = b := UInt8.toNat_inj.1 (by have := beq_iff_eq.1 h; omega)
theorem byte_bne {a b : UInt8} (h : ((a.toNat : Int) == (b.toNat : Int)) = false) : a ≠ b := fun e => by subst e; simp at h
theorem digits_get (k : Nat) (h : k < (⟨#[48, 49, 50, 51, 52, 53, 54, 55, 56, 57, 97, 98, 99, 100, 101, 102]⟩ : ByteArray).size) : digitsL[k]? = some ((⟨#[48, 49, 50, 51, 52, 53, 54, 55, 56, 57, 97, 98, 99, 100, 101, 102]⟩ : ByteArray)[k]) := by
  have h' : k < 16 := h
  have : ∀ m : Fin 16, digitsL[m.val]? = some ((⟨#[48, 49, 50, 51, 52, 53, 54, 55, 56, 57, 97, 98, 99, 100, 101, 102]⟩ : ByteArray)[m.val]'m.isLt) := by decide
  exact this ⟨k, h'⟩

set_option maxHeartbeats 1000000 in
theorem rdigit_any (c : UInt8) (w : World) : Calls Tryz.prog 86 #[.int .u8 c.toNat] w fun e w' => e = .returned (.int .i64 (hv c)) ∧ w' = w := by
  go_enter Tryz.func86, Tryz.ntmps86
  go_wp2
  go_loop [3] (fun i => ∃ k : Nat, k ≤ 16 ∧ i = .int .i64 (k : Int) ∧ Hid (∀ j, j < k → digitsL[j]? ≠ some c)) (fun i => 16 - (intOf i).toNat)
  case atStart => exact ⟨0, by omega, rfl, fun j hj => by omega⟩
  case round =>
    obtain ⟨k, hk, rfl, HN⟩ := hrel
    by_cases hlt : k < 16
    · have hg := digits_get k hlt
      have HG := Lib.hid hg
      clear hg
      go_wp2
      · have hx := byte_beq ‹((_ : Int) == _) = true›
        go_ret
        refine ⟨ret_int ?_, rfl⟩
        exact (indexByte_first digitsL c k HN.out (by rw [HG.out, hx])).symm
      · have hx := byte_bne ‹((_ : Int) == _) = false›
        go_round
        case rel =>
          refine ⟨k + 1, by omega, by go_num, ?_⟩
          intro j hj
          by_cases hjk : j < k
          · exact HN.out j hjk
          · obtain rfl : j = k := by omega
            rw [HG.out]; intro e; injection e with e; exact hx e
        case measure => simp [intOf]; omega
    · go_wp2
      go_ret
      refine ⟨ret_int ?_, rfl⟩
      obtain rfl : k = 16 := by omega
      exact (indexByte_none digitsL c HN.out).symm

/-- What stands between the quotes, read a unit at a time. -/
def qd : List UInt8 → Option (List UInt8)
  | [] => some []
  | [c] => if c = 39 then none else some [c]
  | c :: d :: r => if c = 39 then (if d = 39 then (qd r).map (39 :: ·) else none) else (qd (d :: r)).map (c :: ·)

theorem qd_hit (r : List UInt8) : qd (39 :: 39 :: r) = (qd r).map (39 :: ·) := by simp [qd]
theorem qd_bad (d : UInt8) (r : List UInt8) (h : d ≠ 39) : qd (39 :: d :: r) = none := by simp [qd, h]
theorem qd_end : qd [39] = none := by simp [qd]
theorem qd_skip (c : UInt8) (r : List UInt8) (h : c ≠ 39) : qd (c :: r) = (qd r).map (c :: ·) := by
  cases r <;> simp [qd, h]
def rquotedV (l : List UInt8) : Option (List UInt8) := (cutQ l).bind qd

theorem drop_cons {l : List UInt8} {k : Nat} (h : k < l.length) : l.drop k = l[k] :: l.drop (k + 1) := List.drop_eq_getElem_cons h

def tup2 (x : Option (List UInt8)) : Ending := match x with
  | some q => .returned (.tuple #[S q, .bool true])
  | none => .returned (.tuple #[S [], .bool false])

theorem get_byte (l : List UInt8) (k : Nat) (h : k < (⟨l.toArray⟩ : ByteArray).size) : l[k]? = some ((⟨l.toArray⟩ : ByteArray)[k]) := by
  have h' : k < l.length := by rw [size_of_list] at h; exact h
  rw [List.getElem?_eq_getElem h']
  rfl
theorem cat_cut (o r : List UInt8) (k : Nat) (h : k < r.length) : (⟨o.toArray⟩ : ByteArray) ++ (⟨r.toArray⟩ : ByteArray).extract k (k + 1) = ⟨(o ++ [r[k]]).toArray⟩ := by
  apply ByteArray.ext
  apply Array.ext'
  simp only [ByteArray.data_append, ByteArray.data_extract, Array.toList_append, Array.toList_extract]
  simp only [List.extract_eq_take_drop]
  rw [drop_cons h]
  simp only [Nat.add_sub_cancel_left, List.take_succ_cons, List.take_zero]
theorem mid_cut (r : List UInt8) (l : List UInt8) (h : l = 39 :: (r ++ [39])) : (⟨l.toArray⟩ : ByteArray).extract 1 (l.length - 1) = ⟨r.toArray⟩ := by
  subst h
  apply ByteArray.ext
  apply Array.ext'
  simp only [ByteArray.data_extract, Array.toList_extract, List.extract_eq_take_drop]
  simp
theorem cutQ_none_of {l : List UInt8} (h : ∀ r, l ≠ 39 :: (r ++ [39])) : cutQ l = none := by
  cases hq : cutQ l with
  | none => rfl
  | some r => exact absurd ((cutQ_iff l r).1 hq) (h r)
theorem ends_of {l r : List UInt8} (h : l = 39 :: (r ++ [39])) : l[0]? = some 39 ∧ l[l.length - 1]? = some 39 := by
  subst h
  constructor
  · rfl
  · rw [← List.getLast?_eq_getElem?, ← List.cons_append, List.getLast?_concat]
theorem cutQ_ends {l : List UInt8} (h2 : 2 ≤ l.length) (h0 : l[0]? = some 39) (h1 : l[l.length - 1]? = some 39) : ∃ r, l = 39 :: (r ++ [39]) := by
  rw [← List.getLast?_eq_getElem?, List.getLast?_eq_some_iff] at h1
  obtain ⟨ys, rfl⟩ := h1
  match ys, h2, h0 with
  | [], h2, _ => simp at h2
  | a :: t, _, h0 => simp at h0; subst h0; exact ⟨t, rfl⟩

theorem qd_at_bad {r : List UInt8} {k : Nat} {c d : UInt8} (h : r[k]? = some c) (h' : r[k + 1]? = some d) (hc : c = 39) (hd : d ≠ 39) : qd (r.drop k) = none := by
  obtain ⟨hk, rfl⟩ := List.getElem?_eq_some_iff.1 h
  obtain ⟨hk', rfl⟩ := List.getElem?_eq_some_iff.1 h'
  rw [drop_cons hk, drop_cons hk', hc]; exact qd_bad _ _ hd
theorem qd_at_end {r : List UInt8} {k : Nat} {c : UInt8} (h : r[k]? = some c) (h' : k + 1 = r.length) (hc : c = 39) : qd (r.drop k) = none := by
  obtain ⟨hk, rfl⟩ := List.getElem?_eq_some_iff.1 h
  rw [drop_cons hk, hc, List.drop_of_length_le (by omega)]; exact qd_end
theorem qd_at_hit {r : List UInt8} {k : Nat} {c d : UInt8} (h : r[k]? = some c) (h' : r[k + 1]? = some d) (hc : c = 39) (hd : d = 39) : qd (r.drop k) = (qd (r.drop (k + 2))).map (r[k]'(List.getElem?_eq_some_iff.1 h).1 :: ·) := by
  obtain ⟨hk, rfl⟩ := List.getElem?_eq_some_iff.1 h
  obtain ⟨hk', rfl⟩ := List.getElem?_eq_some_iff.1 h'
  rw [drop_cons hk, drop_cons hk', hc, hd]; exact qd_hit _
theorem qd_at_skip {r : List UInt8} {k : Nat} {c : UInt8} (h : r[k]? = some c) (hc : c ≠ 39) : qd (r.drop k) = (qd (r.drop (k + 1))).map (r[k]'(List.getElem?_eq_some_iff.1 h).1 :: ·) := by
  obtain ⟨hk, rfl⟩ := List.getElem?_eq_some_iff.1 h
  rw [drop_cons hk]; exact qd_skip _ _ hc
theorem map_snoc (x : Option (List UInt8)) (o : List UInt8) (a : UInt8) : (x.map (a :: ·)).map (o ++ ·) = x.map ((o ++ [a]) ++ ·) := by
  cases x <;> simp

set_option maxHeartbeats 1000000 in
theorem rquoted_short (l : List UInt8) (h : l.length < 2) (w : World) : Calls Tryz.prog 85 #[S l] w fun e w' => e = tup2 (rquotedV l) ∧ w' = w := by
  have hq : cutQ l = none := cutQ_none_of fun r e => by rw [e] at h; simp at h; omega
  have HQ := Lib.hid hq
  clear hq
  go_enter Tryz.func85, Tryz.ntmps85
  go_wp2
  go_ret2
  exact ⟨by simp [rquotedV, HQ.out, tup2], rfl⟩

set_option maxHeartbeats 1000000 in
theorem rquoted_any (l : List UInt8) (hl : l.length ≤ 10000) (w : World) : Calls Tryz.prog 85 #[S l] w fun e w' => e = tup2 (rquotedV l) ∧ w' = w := by
  by_cases h2' : l.length < 2
  · exact rquoted_short l h2' w
  have h2 : ¬ l.length < 2 := by omega
  clear h2'
  have g0 := get_byte l 0 (by rw [size_of_list]; omega)
  have g1 := get_byte l (l.length - 1) (by rw [size_of_list]; omega)
  have G0 := Lib.hid g0
  have G1 := Lib.hid g1
  clear g0 g1
  go_enter Tryz.func85, Tryz.ntmps85
  go_wp2
  · have hx : (⟨l.toArray⟩ : ByteArray)[l.length - 1]'(by rw [size_of_list]; omega) ≠ 39 := by
      have hh := ‹_ ∨ (_ != (39 : Int)) = true›
      rcases hh with hh | hh
      · omega
      · intro e; rw [e] at hh; simp at hh
    have hq : cutQ l = none := cutQ_none_of fun r e => by
      have h1 := (ends_of e).2
      rw [G1.out] at h1
      injection h1 with h1
      exact hx h1
    go_ret2
    exact ⟨by simp [rquotedV, hq, tup2], rfl⟩
  · obtain ⟨r, hr⟩ : ∃ r, l = 39 :: (r ++ [39]) := by
      refine cutQ_ends (by omega) ?_ ?_
      · rw [G0.out]; congr 1
        have := ‹(_ : Int) = 39›
        exact UInt8.toNat_inj.1 (by show _ = 39; omega)
      · rw [G1.out]; congr 1
        have hh := (‹_ ∧ (_ != (39 : Int)) = false›).2
        simp only [bne_eq_false_iff_eq] at hh
        exact UInt8.toNat_inj.1 (by show _ = 39; omega)
    have hlr : r.length + 2 = l.length := by rw [hr]; simp
    have hcut := mid_cut r l hr
    have HV : Hid (rquotedV l = qd r) := by show _ = _; unfold rquotedV; rw [(cutQ_iff l r).2 hr]; rfl
    have HL := Lib.hid hlr
    have hrl : r.length ≤ 10000 := by omega
    clear hr hlr
    rw [hcut]
    clear hcut
    rename (2 : Int) ≤ _ ∧ (_ != (39 : Int)) = false => hlast
    clear hlast
    go_loop [5, 6] (fun a i => ∃ (k : Nat) (o : List UInt8), k ≤ r.length ∧ i = .int .i64 (k : Int) ∧ a = S o ∧ o.length ≤ k ∧ Hid (qd r = (qd (r.drop k)).map (o ++ ·))) (fun _ i => r.length - (intOf i).toNat)
    case atStart => exact ⟨0, [], Nat.zero_le _, rfl, rfl, Nat.le_refl _, by show _ = _; simp⟩
    case round =>
      obtain ⟨k, o, hk, rfl, rfl, ho, HD⟩ := hrel
      by_cases hlt : k < r.length
      · have hcc := cat_cut o r k hlt
        have HCC := Lib.hid hcc
        have hsz : ¬ 9223372036854775807 < o.length + (min (k + 1) r.length - k) := by omega
        have gk := get_byte r k (by rw [size_of_list]; exact hlt)
        have GK := Lib.hid gk
        clear hcc gk
        by_cases hk1 : k + 1 < r.length
        · have gk1 := get_byte r (k + 1) (by rw [size_of_list]; exact hk1)
          have GK1 := Lib.hid gk1
          clear gk1
          go_wp2
          · have hc := byte_beq (b := 39) ‹((_ : Int) == 39) = true›
            have hd : (⟨r.toArray⟩ : ByteArray)[k + 1]'(by rw [size_of_list]; omega) ≠ 39 := by
              have hh := ‹_ ∨ (_ != (39 : Int)) = true›
              rcases hh with hh | hh
              · simp at hh; omega
              · intro e; rw [e] at hh; simp at hh
            go_ret2
            refine ⟨?_, rfl⟩
            rw [HV.out, HD.out, qd_at_bad GK.out GK1.out hc hd]; rfl
          · have hc := byte_beq (b := 39) ‹((_ : Int) == 39) = true›
            have hd : (⟨r.toArray⟩ : ByteArray)[k + 1]'(by rw [size_of_list]; omega) = 39 := by
              have hh := (‹_ ∧ (_ != (39 : Int)) = false›).2
              simp only [bne_eq_false_iff_eq] at hh
              exact UInt8.toNat_inj.1 (by show _ = 39; omega)
            go_round
            case rel =>
              refine ⟨k + 2, o ++ [r[k]], by omega, by go_num, by rw [HCC.out], by simp; omega, ?_⟩
              show _ = _
              rw [HD.out, qd_at_hit GK.out GK1.out hc hd, map_snoc]
            case measure => simp [intOf]; omega
          · have hc := byte_bne (b := 39) ‹((_ : Int) == 39) = false›
            go_round
            case rel =>
              refine ⟨k + 1, o ++ [r[k]], by omega, rfl, by rw [HCC.out], by simp; omega, ?_⟩
              show _ = _
              rw [HD.out, qd_at_skip GK.out hc, map_snoc]
            case measure => simp [intOf]; omega
        · go_wp2
          · have hc := byte_beq (b := 39) ‹((_ : Int) == 39) = true›
            go_ret2
            refine ⟨?_, rfl⟩
            rw [HV.out, HD.out, qd_at_end GK.out (by omega) hc]; rfl
          · have hc := byte_bne (b := 39) ‹((_ : Int) == 39) = false›
            go_round
            case rel =>
              refine ⟨k + 1, o ++ [r[k]], by omega, rfl, by rw [HCC.out], by simp; omega, ?_⟩
              show _ = _
              rw [HD.out, qd_at_skip GK.out hc, map_snoc]
            case measure => simp [intOf]; omega
      · obtain rfl : k = r.length := by omega
        go_wp2
        go_ret2
        refine ⟨?_, rfl⟩
        rw [HV.out, HD.out]
        simp [qd, tup2]
  · have hx : (⟨l.toArray⟩ : ByteArray)[0]'(by rw [size_of_list]; omega) ≠ 39 := by
      have hh := ‹¬ (_ : Int) = 39›
      intro e; rw [e] at hh; exact hh rfl
    have hq : cutQ l = none := cutQ_none_of fun r e => by
      have h1 := (ends_of e).1
      rw [G0.out] at h1
      injection h1 with h1
      exact hx h1
    go_ret2
    exact ⟨by simp [rquotedV, hq, tup2], rfl⟩

end Go.Proofs.YtepkfkfedmbmnaaGreatDoor

namespace Go.Proofs.YtepkfkfedmbmnaaGreatDoor
open Go.RowKit
set_option maxRecDepth 100000

def I64 (n : Int) : Prop := -9223372036854775808 ≤ n ∧ n ≤ 9223372036854775807
/-- What the reference's Whole says of s. -/
def NW (s : List UInt8) (x : Int) (b : Bool) : Prop := (b = true → readNum s = some x) ∧ (b = false → readNum s = none)
def WholePost (s : List UInt8) (w : World) (e : Ending) (w' : World) : Prop := ∃ x b, e = .returned (.tuple #[.int .i64 x, .bool b]) ∧ w' = w ∧ NW s x b

theorem readNum_of {s : List UInt8} {x : Int} (h : I64 x) (hs : Lib.itoa x = s) : readNum s = some x := by
  subst hs; unfold readNum; rw [parse_itoa x h.1 h.2]; simp
theorem readNum_not {s : List UInt8} (h : ∀ n, I64 n → Lib.itoa n ≠ s) : readNum s = none := by
  cases hr : readNum s with
  | none => rfl
  | some x =>
    unfold readNum at hr
    split at hr
    · rename_i n hn
      split at hr
      · rename_i hi; exact absurd hi (h n (int64_of_parse hn))
      · cases hr
    · cases hr
theorem nw_no {s : List UInt8} (x : Int) (h : ∀ n, I64 n → Lib.itoa n ≠ s) : NW s x false := ⟨fun e => by simp at e, fun _ => readNum_not h⟩
theorem nw_end {s : List UInt8} {x : Int} {b : Bool} (h : I64 x) (hb : b = true ↔ Lib.itoa x = s) (hu : ∀ n, I64 n → Lib.itoa n = s → n = x) : NW s x b := by
  refine ⟨fun e => readNum_of h (hb.1 e), fun e => readNum_not fun n hn hi => ?_⟩
  have := hu n hn hi
  subst this
  rw [hb.2 hi] at e; exact absurd e (by simp)

/-- d: the digits of s, neg: whether s begins with a minus. -/
def Digs (s d : List UInt8) (neg : Bool) : Prop := ∀ n, Lib.itoa n = s → Lib.decDigits n.natAbs = d ∧ (n < 0 ↔ neg = true)
theorem digs_neg (d : List UInt8) : Digs (45 :: d) d true := fun n h => by
  have h1 := digs_itoa n
  have h2 := neg_itoa n
  rw [h] at h1 h2
  exact ⟨h1.symm, by simp at h2; simp [h2]⟩
theorem digs_pos (d : List UInt8) (h : d[0]? ≠ some 45) : Digs d d false := fun n hi => by
  have h1 := digs_itoa n
  have h2 := neg_itoa n
  rw [hi] at h1 h2
  refine ⟨?_, by rw [← h2]; simp [h]⟩
  rw [← h1]
  cases d with
  | nil => rfl
  | cons c r => unfold digs; simp only []; rw [if_neg]; simpa using h
theorem no_len {s d : List UInt8} {neg : Bool} (h : Digs s d neg) (hl : d.length = 0 ∨ 19 < d.length) : ∀ n, I64 n → Lib.itoa n ≠ s := fun n hn e => by
  have := (h n e).1
  have h1 := dec_len1 n.natAbs
  have h2 := dec_len19 n.natAbs (by unfold I64 at hn; omega)
  rw [this] at h1 h2; omega
theorem no_dig {s d : List UInt8} {neg : Bool} (h : Digs s d neg) {k : Nat} {c : UInt8} (hk : d[k]? = some c) (hc : ¬ isDig c) : ∀ n, I64 n → Lib.itoa n ≠ s := fun n hn e => by
  have h1 := (h n e).1
  have h2 := dec_dig n.natAbs
  rw [h1] at h2
  exact hc (h2 c (List.mem_of_getElem? hk))
theorem no_big {s d : List UInt8} {neg : Bool} (h : Digs s d neg) {k : Nat} (hk : 9223372036854775808 < dv (d.take k)) : ∀ n, I64 n → Lib.itoa n ≠ s := fun n hn e => by
  have h1 := (h n e).1
  have h2 := dv_take_le d k
  have h3 := dv_dec n.natAbs
  rw [h1] at h3
  unfold I64 at hn; omega
theorem no_top {s d : List UInt8} (h : Digs s d false) (hk : dv d = 9223372036854775808) : ∀ n, I64 n → Lib.itoa n ≠ s := fun n hn e => by
  have h1 := h n e
  have h3 := dv_dec n.natAbs
  rw [h1.1] at h3
  have h4 := h1.2
  simp at h4
  unfold I64 at hn; omega
theorem one_neg {s d : List UInt8} (h : Digs s d true) : ∀ n, I64 n → Lib.itoa n = s → n = -(dv d : Int) := fun n hn e => by
  have h1 := h n e
  have h3 := dv_dec n.natAbs
  rw [h1.1] at h3
  have h4 := h1.2
  simp at h4
  omega
theorem one_pos {s d : List UInt8} (h : Digs s d false) : ∀ n, I64 n → Lib.itoa n = s → n = (dv d : Int) := fun n hn e => by
  have h1 := h n e
  have h3 := dv_dec n.natAbs
  rw [h1.1] at h3
  have h4 := h1.2
  simp at h4
  omega
theorem dv_next {d : List UInt8} {k : Nat} {c : UInt8} (h : d[k]? = some c) : dv (d.take (k + 1)) = dv (d.take k) * 10 + (c.toNat - 48) := by
  rw [List.take_add_one, h]; exact dv_snoc _ _
theorem w64 (n : Int) (h : -9223372036854775808 ≤ n ∧ n ≤ 9223372036854775807) : wrap64 n = n := by unfold wrap64; omega
theorem quo_is (x : Nat) (h : x ≤ 9) : (-9223372036854775808 + (x : Int)).tdiv 10 = -((9223372036854775808 - (x : Int)) / 10) := by
  rw [show -9223372036854775808 + (x : Int) = -(9223372036854775808 - (x : Int)) by omega, Int.neg_tdiv, Int.tdiv_eq_ediv_of_nonneg (by omega)]

theorem over {d : List UInt8} {k v : Nat} {c : UInt8} (h : d[k]? = some c) (hv : dv (d.take k) = v) (h1 : 48 ≤ c.toNat) (h2 : c.toNat ≤ 57) (ho : -(v : Int) < (-9223372036854775808 + ((c.toNat : Int) - 48)).tdiv 10) : 9223372036854775808 < dv (d.take (k + 1)) := by
  rw [dv_next h, hv]
  have hq := quo_is (c.toNat - 48) (by omega)
  rw [show ((c.toNat - 48 : Nat) : Int) = (c.toNat : Int) - 48 by omega] at hq
  rw [hq] at ho
  omega
theorem under {v m : Nat} (h1 : 48 ≤ m) (h2 : m ≤ 57) (ho : (-9223372036854775808 + ((m : Int) - 48)).tdiv 10 ≤ -(v : Int)) : v * 10 + (m - 48) ≤ 9223372036854775808 := by
  have hq := quo_is (m - 48) (by omega)
  rw [show ((m - 48 : Nat) : Int) = (m : Int) - 48 by omega] at hq
  rw [hq] at ho
  omega

set_option maxHeartbeats 1000000 in
theorem rWhole_neg (d : List UInt8) (hl : d.length ≤ 10000) (w : World) : Calls Tryz.prog 84 #[S (45 :: d)] w (WholePost (45 :: d) w) := by
  have HG := Lib.hid (digs_neg d)
  have hcut : (⟨(45 :: d).toArray⟩ : ByteArray).extract 1 (d.length + 1) = ⟨d.toArray⟩ := by
    apply ByteArray.ext
    apply Array.ext'
    simp
  have h0 : (⟨(45 :: d).toArray⟩ : ByteArray)[0]'(by rw [size_of_list]; simp) = 45 := rfl
  go_enter Tryz.func84, Tryz.ntmps84
  go_wp2
  · subst d
    go_ret2
    exact ⟨0, false, rfl, rfl, nw_no 0 (no_len HG.out (Or.inl rfl))⟩
  · have hh := ‹_ ∨ (19 : Int) < _›
    go_ret2
    exact ⟨0, false, rfl, rfl, nw_no 0 (no_len HG.out (by rcases hh with hh | hh; simp at hh; simp [hh]; omega))⟩
  · rename _ ∧ _ ≤ (19 : Int) => hlast
    have hd19 : d.length ≤ 19 := by omega
    clear hlast h0 hcut
    go_loop [6, 7, 8] (fun a i _ => ∃ (k v : Nat), k ≤ d.length ∧ i = .int .i64 (k : Int) ∧ a = .int .i64 (-(v : Int)) ∧ v ≤ 9223372036854775808 ∧ Hid (dv (d.take k) = v)) (fun _ i _ => d.length - (intOf i).toNat)
    case atStart => exact ⟨0, 0, Nat.zero_le _, rfl, rfl, by omega, by show _ = _; simp [dv, dvA]⟩
    case round =>
      obtain ⟨k, v, hk, rfl, rfl, hv, HD⟩ := hrel
      by_cases hlt : k < d.length
      · have gk := get_byte d k (by rw [size_of_list]; exact hlt)
        have GK := Lib.hid gk
        clear gk
        generalize hm : (⟨d.toArray⟩ : ByteArray)[k]'(by rw [size_of_list]; exact hlt) = c at *
        go_wp2
        · have hh := ‹_ ∨ (57 : Int) < _›
          go_ret2
          exact ⟨0, false, rfl, rfl, nw_no 0 (no_dig HG.out GK.out (by unfold isDig; omega))⟩
        · have hh := ‹_ ∧ _ ≤ (57 : Int)›
          have ho := ‹-(v : Int) < _›
          go_ret2
          exact ⟨0, false, rfl, rfl, nw_no 0 (no_big HG.out (over GK.out HD.out (by omega) (by omega) ho))⟩
        · have hh := ‹_ ∧ _ ≤ (57 : Int)›
          have ho := ‹_ ≤ -(v : Int)›
          have hu := under (v := v) (m := c.toNat) (by omega) (by omega) ho
          go_round
          case rel =>
            refine ⟨k + 1, v * 10 + (c.toNat - 48), by omega, rfl, ?_, by omega, ?_⟩
            · rw [w64 (10 * -(v : Int)) (by omega), w64 _ (by omega)]
              exact congrArg _ (by omega)
            · show _ = _
              rw [dv_next GK.out, HD.out]
          case measure => simp [intOf]; omega
        · go_ret2
          exact ⟨0, false, rfl, rfl, nw_no 0 (no_dig HG.out GK.out (by unfold isDig; omega))⟩
      · obtain rfl : k = d.length := by omega
        have hD := HD.out
        rw [List.take_length] at hD
        go_wp2_with fail
        (with_reducible refine (rNumber_any _ (by omega) (by omega) _).mono ?_)
        rintro e w1 ⟨rfl, rfl⟩
        go_wp2
        go_ret2
        refine ⟨_, _, rfl, rfl, nw_end ⟨by omega, by omega⟩ ?_ (by rw [← hD]; exact one_neg HG.out)⟩
        exact beq_iff_eq

set_option maxHeartbeats 1000000 in
theorem rWhole_pos (d : List UInt8) (hn : d ≠ []) (h45 : d[0]? ≠ some 45) (hl : d.length ≤ 10000) (w : World) : Calls Tryz.prog 84 #[S d] w (WholePost d w) := by
  have HG := Lib.hid (digs_pos d h45)
  have hpos : 0 < d.length := List.length_pos_iff.2 hn
  have g0 := get_byte d 0 (by rw [size_of_list]; exact hpos)
  have h0 : ((((⟨d.toArray⟩ : ByteArray)[0]'(by rw [size_of_list]; exact hpos)).toNat : Int) == 45) = false := by
    rw [g0] at h45
    generalize (⟨d.toArray⟩ : ByteArray)[0]'(by rw [size_of_list]; exact hpos) = c at *
    cases hb : ((c.toNat : Int) == 45) with
    | false => rfl
    | true => exact absurd (congrArg some (byte_beq (b := 45) hb)) h45
  clear g0 h45 hn
  go_enter Tryz.func84, Tryz.ntmps84
  go_wp2
  · exact absurd ‹d = []› (by intro e; rw [e] at hpos; simp at hpos)
  · have hh := ‹_ ∨ (19 : Int) < _›
    go_ret2
    exact ⟨0, false, rfl, rfl, nw_no 0 (no_len HG.out (by rcases hh with hh | hh; simp at hh; simp [hh]; omega))⟩
  · rename _ ∧ _ ≤ (19 : Int) => hlast
    have hd19 : d.length ≤ 19 := by omega
    clear hlast h0
    go_loop [6, 7, 8] (fun a i _ => ∃ (k v : Nat), k ≤ d.length ∧ i = .int .i64 (k : Int) ∧ a = .int .i64 (-(v : Int)) ∧ v ≤ 9223372036854775808 ∧ Hid (dv (d.take k) = v)) (fun _ i _ => d.length - (intOf i).toNat)
    case atStart => exact ⟨0, 0, Nat.zero_le _, rfl, rfl, by omega, by show _ = _; simp [dv, dvA]⟩
    case round =>
      obtain ⟨k, v, hk, rfl, rfl, hv, HD⟩ := hrel
      by_cases hlt : k < d.length
      · have gk := get_byte d k (by rw [size_of_list]; exact hlt)
        have GK := Lib.hid gk
        clear gk
        generalize hm : (⟨d.toArray⟩ : ByteArray)[k]'(by rw [size_of_list]; exact hlt) = c at *
        go_wp2
        · have hh := ‹_ ∨ (57 : Int) < _›
          go_ret2
          exact ⟨0, false, rfl, rfl, nw_no 0 (no_dig HG.out GK.out (by unfold isDig; omega))⟩
        · have hh := ‹_ ∧ _ ≤ (57 : Int)›
          have ho := ‹-(v : Int) < _›
          go_ret2
          exact ⟨0, false, rfl, rfl, nw_no 0 (no_big HG.out (over GK.out HD.out (by omega) (by omega) ho))⟩
        · have hh := ‹_ ∧ _ ≤ (57 : Int)›
          have ho := ‹_ ≤ -(v : Int)›
          have hu := under (v := v) (m := c.toNat) (by omega) (by omega) ho
          go_round
          case rel =>
            refine ⟨k + 1, v * 10 + (c.toNat - 48), by omega, rfl, ?_, by omega, ?_⟩
            · rw [w64 (10 * -(v : Int)) (by omega), w64 _ (by omega)]
              exact congrArg _ (by omega)
            · show _ = _
              rw [dv_next GK.out, HD.out]
          case measure => simp [intOf]; omega
        · go_ret2
          exact ⟨0, false, rfl, rfl, nw_no 0 (no_dig HG.out GK.out (by unfold isDig; omega))⟩
      · obtain rfl : k = d.length := by omega
        have hD := HD.out
        rw [List.take_length] at hD
        by_cases hm : v = 9223372036854775808
        · subst hm
          go_wp2_with fail
          go_ret2
          exact ⟨0, false, rfl, rfl, nw_no 0 (no_top HG.out hD)⟩
        · have hmb : (-(v : Int) == -9223372036854775808) = false := by simp; omega
          go_wp2_with fail
          (with_reducible refine (rNumber_any _ (by omega) (by omega) _).mono ?_)
          rintro e w1 ⟨rfl, rfl⟩
          go_wp2
          go_ret2
          refine ⟨_, _, rfl, rfl, nw_end ⟨by omega, by omega⟩ ?_ (by rw [← hD]; exact one_pos HG.out)⟩
          exact beq_iff_eq

theorem rWhole_nil (w : World) : Calls Tryz.prog 84 #[S []] w (WholePost [] w) := by
  go_enter Tryz.func84, Tryz.ntmps84
  go_wp2
  go_ret2
  exact ⟨0, false, rfl, rfl, nw_no 0 (no_len (d := []) (digs_pos [] (by simp)) (Or.inl rfl))⟩

theorem rWhole_any (s : List UInt8) (hl : s.length ≤ 10000) (w : World) : Calls Tryz.prog 84 #[S s] w (WholePost s w) := by
  match s, hl with
  | [], _ => exact rWhole_nil w
  | c :: r, hl =>
    by_cases h : c = 45
    · subst h; exact rWhole_neg r (by simp at hl; omega) w
    · exact rWhole_pos (c :: r) (by simp) (by simpa using h) hl w

end Go.Proofs.YtepkfkfedmbmnaaGreatDoor

namespace Go.Proofs.YtepkfkfedmbmnaaGreatDoor
open Go.RowKit
set_option maxRecDepth 100000

theorem chk_ways {k n : Int} {l : List UInt8} (h : chk k n l = 0) : l.length ≤ 1000 ∧ ((k = 0 ∧ n = 0 ∧ l = []) ∨ (k = 1 ∧ n = 0 ∧ l = []) ∨ (k = 1 ∧ n = 1 ∧ l = []) ∨ (k = 2 ∧ l = []) ∨ (k = 3 ∧ n = 0) ∨ (k = 4 ∧ n = 0)) := by
  unfold chk at h
  split at h
  · omega
  · split at h
    · rename_i h1 h2
      refine ⟨by omega, ?_⟩
      rcases h2 with h2 | ⟨a, b | b, c⟩ | h2 | h2 | h2
      · exact Or.inl h2
      · exact Or.inr (Or.inl ⟨a, b, c⟩)
      · exact Or.inr (Or.inr (Or.inl ⟨a, b, c⟩))
      · exact Or.inr (Or.inr (Or.inr (Or.inl h2)))
      · exact Or.inr (Or.inr (Or.inr (Or.inr (Or.inl h2))))
      · exact Or.inr (Or.inr (Or.inr (Or.inr (Or.inr h2))))
    · omega

theorem of_get {l : List UInt8} {k : Nat} {c : UInt8} (h : l[k]? = some c) : c = l[k]'(List.getElem?_eq_some_iff.1 h).1 := (List.getElem?_eq_some_iff.1 h).2.symm
theorem dbl_append (a b : List UInt8) : dbl (a ++ b) = dbl a ++ dbl b := by
  induction a with
  | nil => rfl
  | cons c r ih => simp only [List.cons_append, dbl]; split <;> simp [ih]
theorem dbl_next {l : List UInt8} {k : Nat} {c : UInt8} (h : l[k]? = some c) : dbl (l.take (k + 1)) = dbl (l.take k) ++ (if c = 39 then [39, 39] else [c]) := by
  rw [List.take_add_one, h, dbl_append]; simp [dbl]
theorem cat_list (a b : List UInt8) : (⟨a.toArray⟩ : ByteArray) ++ (⟨b.toArray⟩ : ByteArray) = ⟨(a ++ b).toArray⟩ := by
  apply ByteArray.ext
  simp
theorem cat_arr (a b : Array UInt8) : (⟨a⟩ : ByteArray) ++ (⟨b⟩ : ByteArray) = ⟨a ++ b⟩ := by
  apply ByteArray.ext
  simp
theorem hexOf_next {l : List UInt8} {k : Nat} {c : UInt8} (h : l[k]? = some c) : hexOf (l.take (k + 1)) = hexOf (l.take k) ++ [hexDigit (c.toNat / 16), hexDigit (c.toNat % 16)] := by
  rw [List.take_add_one, h]; simp [hexOf]
theorem hex_cut (d : Nat) (h : d < 16) : (⟨#[48, 49, 50, 51, 52, 53, 54, 55, 56, 57, 97, 98, 99, 100, 101, 102]⟩ : ByteArray).extract d (d + 1) = ⟨#[hexDigit d]⟩ := by
  have : ∀ m : Fin 16, (⟨#[48, 49, 50, 51, 52, 53, 54, 55, 56, 57, 97, 98, 99, 100, 101, 102]⟩ : ByteArray).extract m.val (m.val + 1) = ⟨#[hexDigit m.val]⟩ := by decide
  exact this ⟨d, h⟩

set_option maxHeartbeats 1000000 in
theorem rLiteral_no (k n : Int) (l : List UInt8) (h : ¬ chk k n l = 0) (hk0 : -9223372036854775808 ≤ k) (hk1 : k ≤ 9223372036854775807) (w : World) :
    Calls Tryz.prog 50 #[V k n l] w fun e w' => e = .returned (.tuple #[S [], .int .i64 (chk k n l)]) ∧ Bl w w' := by
  have hb : (chk k n l != 0) = true := by simpa using h
  go_enter Tryz.func50, Tryz.ntmps50
  go_wp2_with fail
  (with_reducible refine (rCheck_any k n l hk0 hk1 _).mono ?_)
  rintro e w1 ⟨rfl, hb1⟩
  go_wp2_with fail
  go_ret2
  exact ⟨rfl, ((Bl.refl w).alloc _).call hb1⟩

set_option maxHeartbeats 1000000 in
theorem rLiteral_ok (k n : Int) (l : List UInt8) (h : chk k n l = 0) (h0 : -9223372036854775808 ≤ n) (h1 : n ≤ 9223372036854775807) (w : World) :
    Calls Tryz.prog 50 #[V k n l] w fun e w' => e = .returned (.tuple #[S (lit k n l), .int .i64 0]) ∧ Bl w w' := by
  obtain ⟨hl, hc⟩ := chk_ways h
  have H := Lib.hid h
  have HC := Lib.hid hc
  have hk0 : 0 ≤ k ∧ k ≤ 4 := by omega
  clear h hc
  go_enter Tryz.func50, Tryz.ntmps50
  go_wp2_with fail
  (with_reducible refine (rCheck_any k n l (by omega) (by omega) _).mono ?_)
  rintro e w1 ⟨rfl, hb1⟩
  have hbW : Bl w w1 := ((Bl.refl w).alloc _).call hb1
  obtain ⟨hcl, hfz⟩ := bcell hb1
  have c0 := hcl w.heap.size 0 (by simp)
  have c1 := hcl w.heap.size 1 (by simp)
  have c2 := hcl w.heap.size 2 (by simp)
  simp [go_sem] at c0 c1 c2
  clear hcl hfz hb1
  have hz := H.out
  rw [hz]
  have hcs := HC.out
  clear HC H hk0
  rcases hcs with ⟨rfl, rfl, rfl⟩ | ⟨rfl, rfl, rfl⟩ | ⟨rfl, rfl, rfl⟩ | ⟨rfl, rfl⟩ | ⟨rfl, rfl⟩ | ⟨rfl, rfl⟩
  · clear hz
    go_wp2_with fail
    go_ret2
    exact ⟨rfl, hbW⟩
  · clear hz
    go_wp2_with fail
    go_ret2
    exact ⟨rfl, hbW⟩
  · clear hz
    go_wp2_with fail
    go_ret2
    exact ⟨rfl, hbW⟩
  · clear hz
    go_wp2_with fail
    (with_reducible refine (rNumber_any n h0 h1 _).mono ?_)
    rintro e w2 ⟨rfl, rfl⟩
    go_wp2_with fail
    go_ret2
    exact ⟨rfl, hbW⟩
  · clear hz
    go_wp2_with fail
    go_loop [5, 6] (fun a i => ∃ (k : Nat) (o : List UInt8), k ≤ l.length ∧ i = .int .i64 (k : Int) ∧ a = S o ∧ o.length ≤ 2 * k ∧ Hid (dbl (l.take k) = o)) (fun _ i => l.length - (intOf i).toNat)
    case atStart => exact ⟨0, [], Nat.zero_le _, rfl, rfl, Nat.le_refl _, by show _ = _; simp [dbl]⟩
    case round =>
      obtain ⟨k, o, hk, rfl, rfl, ho, HD⟩ := hrel
      by_cases hlt : k < l.length
      · have hcc := cat_cut o l k hlt
        have HCC := Lib.hid hcc
        have hsz : ¬ 9223372036854775807 < o.length + (min (k + 1) l.length - k) := by omega
        have hsz2 : ¬ 9223372036854775807 < o.length + (min (k + 1) l.length - k) + 1 := by omega
        have gk := get_byte l k (by rw [size_of_list]; exact hlt)
        have GK := Lib.hid gk
        clear hcc gk
        go_wp2
        · have hc := byte_beq (b := 39) ‹((_ : Int) == 39) = true›
          go_round
          case rel =>
            refine ⟨k + 1, o ++ [l[k]] ++ [39], by omega, rfl, by rw [HCC.out, cat_list], by simp; omega, ?_⟩
            show _ = _
            rw [dbl_next GK.out, HD.out, if_pos hc, ← of_get GK.out, hc]
            simp
          case measure => simp [intOf]; omega
        · have hc := byte_bne (b := 39) ‹((_ : Int) == 39) = false›
          go_round
          case rel =>
            refine ⟨k + 1, o ++ [l[k]], by omega, rfl, by rw [HCC.out], by simp; omega, ?_⟩
            show _ = _
            rw [dbl_next GK.out, HD.out, if_neg hc, ← of_get GK.out]
          case measure => simp [intOf]; omega
      · obtain rfl : k = l.length := by omega
        have hsz : ¬ 9223372036854775807 < 1 + o.length := by omega
        have hsz2 : ¬ 9223372036854775807 < 1 + o.length + 1 := by omega
        have hD := HD.out
        rw [List.take_length] at hD
        go_wp2
        go_ret2
        refine ⟨?_, hbW⟩
        rw [cat_arr, cat_arr]
        simp [lit, litText, hD]
  · clear hz
    go_wp2_with fail
    go_loopw [5, 7, 8] (fun a i _ wr => ∃ (k : Nat) (o : List UInt8), k ≤ l.length ∧ i = .int .i64 (k : Int) ∧ a = S o ∧ o.length ≤ 2 * k ∧ Hid (hexOf (l.take k) = o) ∧ Bl w1 wr) (fun _ i _ _ => l.length - (intOf i).toNat)
    case atStart => exact ⟨0, [], Nat.zero_le _, rfl, rfl, Nat.le_refl _, by show _ = _; simp [hexOf], Bl.refl _⟩
    case round =>
      obtain ⟨k, o, hk, rfl, rfl, ho, HD, hbr⟩ := hrel
      have d2 := hbr.cell c2
      by_cases hlt : k < l.length
      · have gk := get_byte l k (by rw [size_of_list]; exact hlt)
        have GK := Lib.hid gk
        clear gk
        generalize hm : (⟨l.toArray⟩ : ByteArray)[k]'(by rw [size_of_list]; exact hlt) = c at *
        have hc8 : c.toNat < 256 := c.toNat_lt
        go_wp2_with fail
        go_region
        go_wp2
        go_roundw
        case rel =>
          refine ⟨k + 1, o ++ [hexDigit (c.toNat / 16), hexDigit (c.toNat % 16)], by omega, rfl, ?_, by simp; omega, ?_, hbr.drew⟩
          · rw [hex_cut _ (by omega), hex_cut _ (by omega), cat_arr, cat_arr]; simp [S]
          · show _ = _
            rw [hexOf_next GK.out, HD.out]
        case measure => simp [intOf]; omega
      · obtain rfl : k = l.length := by omega
        have hsz : ¬ 9223372036854775807 < 2 + o.length := by omega
        have hsz2 : ¬ 9223372036854775807 < 2 + o.length + 1 := by omega
        have hD := HD.out
        rw [List.take_length] at hD
        go_wp2
        go_ret2
        refine ⟨?_, hbW.call hbr⟩
        rw [cat_arr, cat_arr]
        simp [lit, litBlob, hD]

end Go.Proofs.YtepkfkfedmbmnaaGreatDoor

namespace Go.Proofs.YtepkfkfedmbmnaaGreatDoor
open Go.RowKit
set_option maxRecDepth 100000

theorem qd_pairs : ∀ (n : Nat) (r : List UInt8), r.length ≤ n → qd r = if (pairs 0 r).contains 39 then none else some (pairs 39 r) := by
  intro n
  induction n with
  | zero => intro r h; obtain rfl : r = [] := by simpa using h
            simp [qd, pairs]
  | succ n ih =>
    intro r h
    match r, h with
    | [], _ => simp [qd, pairs]
    | [c], _ =>
      by_cases hc : c = 39
      · subst hc; simp [qd, pairs]
      · simp [qd, pairs, hc, Ne.symm hc]
    | c :: d :: r, h =>
      simp only [List.length_cons] at h
      by_cases hc : c = 39
      · subst hc
        by_cases hd : d = 39
        · subst hd
          rw [qd_hit, ih r (by omega)]
          simp only [pairs]
          simp
          split <;> simp
        · rw [qd_bad _ _ hd]
          simp only [pairs]
          simp [hd]
      · rw [qd_skip _ _ hc, ih (d :: r) (by simp; omega)]
        conv => rhs; unfold pairs
        simp [hc, Ne.symm hc]
        split <;> simp
theorem rquotedV_unq (l : List UInt8) : rquotedV l = unq l := by
  unfold rquotedV unq
  congr 1
  funext r
  exact qd_pairs r.length r (Nat.le_refl _)

/-- What the parser's answer is. -/
def parseEnd (s : List UInt8) : Ending := .returned (.tuple #[V (parseV s).1 (parseV s).2.1 (parseV s).2.2.1, .int .i64 (parseV s).2.2.2])
theorem parseEnd_ok {s : List UInt8} {k n : Int} {l : List UInt8} (h : readV s = some (k, n, l)) (hc : chk k n l = 0) : Ending.returned (.tuple #[V k n l, .int .i64 0]) = parseEnd s := by
  simp [parseEnd, parseV, h, hc]
theorem parseEnd_chk {s : List UInt8} {k n : Int} {l : List UInt8} (h : readV s = some (k, n, l)) (hc : ¬ chk k n l = 0) : Ending.returned (.tuple #[V 0 0 [], .int .i64 (chk k n l)]) = parseEnd s := by
  simp [parseEnd, parseV, h, hc]
theorem parseEnd_no {s : List UInt8} (h : readV s = none) : Ending.returned (.tuple #[V 0 0 [], .int .i64 110]) = parseEnd s := by
  simp [parseEnd, parseV, h]

theorem nameT0 : nameT 0 = [102, 97, 108, 115, 101] := by decide
theorem nameT1 : nameT 1 = [116, 114, 117, 101] := by decide
theorem nameT2 : nameT 2 = [110, 117, 108, 108] := by decide
theorem isName_not {s : List UInt8} (h0 : s ≠ [110, 117, 108, 108]) (h1 : s ≠ [102, 97, 108, 115, 101]) (h2 : s ≠ [116, 114, 117, 101]) : isName s = none := by
  unfold isName; rw [nameT0, nameT1, nameT2, if_neg (Ne.symm h1), if_neg (Ne.symm h2), if_neg (Ne.symm h0)]

def RParsePost (s : List UInt8) (w : World) (e : Ending) (w' : World) : Prop := e = parseEnd s ∧ Bl w w'

theorem rp_ret {a : Act} {W : World} {b : Nat} {k n ec : Int} {l : List UInt8} {s : List UInt8} {w : World} (h2 : a.tmps[2]? = some (.pointer (some ⟨b, 0, none⟩))) (h3 : a.tmps[3]? = some (.int .i64 ec)) (hd : a.defers = [])
    (hW : W.heap[b]? = some (.cells #[.int .i64 k, .int .i64 n, S l] 26 (0, 0))) (hE : Ending.returned (.tuple #[V k n l, .int .i64 ec]) = parseEnd s) (hb : Bl w W) : bodyPost Tryz.prog Tryz.f57 (RParsePost s w) .ret a W := by
  have q0 : W.cell? ⟨b, 0, none⟩ = some (.int .i64 k) := by rw [Lib.cell_of_heap hW]; rfl
  have q1 : W.cell? ⟨b, 1, none⟩ = some (.int .i64 n) := by rw [Lib.cell_of_heap hW]; rfl
  have q2 : W.cell? ⟨b, 2, none⟩ = some (S l) := by rw [Lib.cell_of_heap hW]; rfl
  obtain ⟨t, d⟩ := a
  refine bodyPost_ret (v := .tuple #[V k n l, .int .i64 ec]) ?_ hd ⟨hE, hb⟩
  simp [results, Tryz.results57, go_sem, q0, q1, q2, h2, h3]

set_option maxHeartbeats 1000000 in
theorem rParse_null (w : World) : Calls Tryz.prog 57 #[S [110, 117, 108, 108]] w (RParsePost [110, 117, 108, 108] w) := by
  go_enter Tryz.func57, Tryz.ntmps57
  go_wp2_with fail
  exact rp_ret (b := w.heap.size) (k := 0) (n := 0) (l := []) (ec := 0) rfl rfl rfl (heap_new w _) (parseEnd_ok (by decide) (by decide)) ((Bl.refl w).alloc _)
set_option maxHeartbeats 1000000 in
theorem rParse_false (w : World) : Calls Tryz.prog 57 #[S [102, 97, 108, 115, 101]] w (RParsePost [102, 97, 108, 115, 101] w) := by
  go_enter Tryz.func57, Tryz.ntmps57
  go_wp2_with fail
  (with_reducible refine (rOf_any 0 (by omega) (by omega) _).mono ?_)
  rintro e w1 ⟨rfl, hb1⟩
  have hA : w1.heap[w.heap.size]? = some (.cells #[.int .i64 0, .int .i64 0, .string ⟨#[]⟩] 26 (0, 0)) := by rw [hb1.block _ (by simp), heap_new]
  have c0 : w1.cell? ⟨w.heap.size, 0, none⟩ = some (.int .i64 0) := by rw [Lib.cell_of_heap hA]; rfl
  have c1 : w1.cell? ⟨w.heap.size, 1, none⟩ = some (.int .i64 0) := by rw [Lib.cell_of_heap hA]; rfl
  have c2 : w1.cell? ⟨w.heap.size, 2, none⟩ = some (.string ⟨#[]⟩) := by rw [Lib.cell_of_heap hA]; rfl
  have f0 := Lib.frozen_of_heap hA 0
  have f1 := Lib.frozen_of_heap hA 1
  have f2 := Lib.frozen_of_heap hA 2
  go_wp2_with fail
  exact rp_ret (b := w.heap.size) (k := 1) (n := 0) (l := []) (ec := 0) rfl rfl rfl (heap_set3 _ _ _ _ _ _ _ _ _ hA) (parseEnd_ok (by decide) (by decide)) ((((((Bl.refl w).alloc _).call hb1).set (by simp) _).set (by simp) _).set (by simp) _)
set_option maxHeartbeats 1000000 in
theorem rParse_true (w : World) : Calls Tryz.prog 57 #[S [116, 114, 117, 101]] w (RParsePost [116, 114, 117, 101] w) := by
  go_enter Tryz.func57, Tryz.ntmps57
  go_wp2_with fail
  (with_reducible refine (rOf_any 1 (by omega) (by omega) _).mono ?_)
  rintro e w1 ⟨rfl, hb1⟩
  have hA : w1.heap[w.heap.size]? = some (.cells #[.int .i64 0, .int .i64 0, .string ⟨#[]⟩] 26 (0, 0)) := by rw [hb1.block _ (by simp), heap_new]
  have c0 : w1.cell? ⟨w.heap.size, 0, none⟩ = some (.int .i64 0) := by rw [Lib.cell_of_heap hA]; rfl
  have c1 : w1.cell? ⟨w.heap.size, 1, none⟩ = some (.int .i64 0) := by rw [Lib.cell_of_heap hA]; rfl
  have c2 : w1.cell? ⟨w.heap.size, 2, none⟩ = some (.string ⟨#[]⟩) := by rw [Lib.cell_of_heap hA]; rfl
  have f0 := Lib.frozen_of_heap hA 0
  have f1 := Lib.frozen_of_heap hA 1
  have f2 := Lib.frozen_of_heap hA 2
  go_wp2_with fail
  exact rp_ret (b := w.heap.size) (k := 1) (n := 1) (l := []) (ec := 0) rfl rfl rfl (heap_set3 _ _ _ _ _ _ _ _ _ hA) (parseEnd_ok (by decide) (by decide)) ((((((Bl.refl w).alloc _).call hb1).set (by simp) _).set (by simp) _).set (by simp) _)

theorem readV_num {s : List UInt8} {n : Int} (h : isName s = none) (hn : readNum s = some n) : readV s = some (2, n, []) := by simp [readV, h, hn]
theorem readV_rest {s : List UInt8} (h : isName s = none) (hn : readNum s = none) : readV s = (readRest s).map fun x => (x.1, 0, x.2) := by
  simp only [readV, h, hn]
theorem readNum_nil : readNum [] = none := by decide
theorem chk_num (n : Int) : chk 2 n [] = 0 := by simp [chk]

theorem readRest_x (r : List UInt8) : readRest (120 :: r) = (unq r).bind fun q => if hexAll q then some (4, unhex q) else none := by
  simp [readRest, Lib.hasPrefix, Lib.trimPrefix]
theorem readRest_t {s : List UInt8} (h : s[0]? ≠ some 120) : readRest s = (unq s).map fun q => (3, q) := by
  have : Lib.hasPrefix s [120] = false := by
    cases s with
    | nil => rfl
    | cons c r => simp only [Lib.hasPrefix, List.isPrefixOf, Bool.and_true]; simp at h; simpa using Ne.symm h
  simp [readRest, this]
theorem tup2_some {l q : List UInt8} (h : unq l = some q) : tup2 (rquotedV l) = .returned (.tuple #[S q, .bool true]) := by rw [rquotedV_unq, h]; rfl
theorem tup2_none {l : List UInt8} (h : unq l = none) : tup2 (rquotedV l) = .returned (.tuple #[S [], .bool false]) := by rw [rquotedV_unq, h]; rfl

theorem hv_not (c : UInt8) (h : ¬ isHex c = true) : hv c = -1 := by
  refine indexByte_none digitsL c fun j hj e => h ?_
  have := List.mem_of_getElem? e
  simpa [isHex] using this
theorem hv_bound (c : UInt8) : -1 ≤ hv c ∧ hv c ≤ 15 := by
  by_cases h : isHex c = true
  · have := hv_range c h; omega
  · rw [hv_not c h]; omega
theorem hv_hex (c : UInt8) : isHex c = true ↔ 0 ≤ hv c := by
  constructor
  · intro h; exact (hv_range c h).1
  · intro h
    cases hh : isHex c with
    | true => rfl
    | false => rw [hv_not c (by simp [hh])] at h; omega

theorem take_two {l : List UInt8} {m : Nat} (hm : m < l.length) (hm1 : m + 1 < l.length) : l.take (m + 2) = l.take m ++ [l[m], l[m + 1]] := by
  have e1 := List.take_add_one (l := l) (i := m + 1)
  have e2 := List.take_add_one (l := l) (i := m)
  rw [List.getElem?_eq_getElem hm1] at e1
  rw [List.getElem?_eq_getElem hm] at e2
  rw [show m + 2 = (m + 1) + 1 from rfl, e1, e2, List.append_assoc]
  rfl
theorem heap_set2 (w : World) (b : Nat) (x y z z' : Value) (t : TypeId) (h : w.heap[b]? = some (.cells #[x, y, z] t (0, 0))) :
    (w.setCell ⟨b, 2, none⟩ z').heap[b]? = some (.cells #[x, y, z'] t (0, 0)) := by
  simp [World.setCell, Array.getElem?_modify, h]

set_option maxHeartbeats 2000000 in
theorem rParse_rest (s : List UInt8) (hs : s.length ≤ 10000) (h0 : s ≠ [110, 117, 108, 108]) (h1 : s ≠ [102, 97, 108, 115, 101]) (h2 : s ≠ [116, 114, 117, 101]) (w : World) : Calls Tryz.prog 57 #[S s] w (RParsePost s w) := by
  have HN := Lib.hid (isName_not h0 h1 h2)
  have b0 : (s == [110, 117, 108, 108]) = false := by simpa using h0
  have b1 : (s == [102, 97, 108, 115, 101]) = false := by simpa using h1
  have b2 : (s == [116, 114, 117, 101]) = false := by simpa using h2
  clear h0 h1 h2
  go_enter Tryz.func57, Tryz.ntmps57
  go_wp2_with fail
  (with_reducible refine (rWhole_any s hs _).mono ?_)
  rintro e w1 ⟨x, b, rfl, rfl, HW⟩
  have HW := Lib.hid HW
  clear b0 b1 b2
  cases b with
  | true =>
    go_wp2_with fail
    exact rp_ret (b := w.heap.size) (k := 2) (n := x) (l := []) (ec := 0) rfl rfl rfl (heap_new w _) (parseEnd_ok (readV_num HN.out (HW.out.1 rfl)) (chk_num x)) ((Bl.refl w).alloc _)
  | false =>
    have HR := Lib.hid (readV_rest HN.out (HW.out.2 rfl))
    clear HW HN
    by_cases h120 : s[0]? = some 120
    · obtain ⟨r, rfl⟩ : ∃ r, s = 120 :: r := by
        cases s with
        | nil => simp at h120
        | cons c r => exact ⟨r, by simpa using h120⟩
      have HS := Lib.hid (readRest_x r)
      have hcut : (⟨(120 :: r).toArray⟩ : ByteArray).extract 1 (r.length + 1) = ⟨r.toArray⟩ := by
        apply ByteArray.ext
        apply Array.ext'
        simp
      have hx0 : (⟨(120 :: r).toArray⟩ : ByteArray)[0]'(by rw [size_of_list]; simp) = 120 := rfl
      have hrl : r.length ≤ 10000 := by simp at hs; omega
      clear h120
      go_wp2_with fail
      (with_reducible refine (rquoted_any r hrl _).mono ?_)
      rintro e w2 ⟨he, rfl⟩
      clear hcut hx0
      cases hq : unq r with
      | none =>
        rw [tup2_none hq] at he
        have hR : readV (120 :: r) = none := by rw [HR.out, HS.out, hq]; rfl
        have HR := Lib.hid hR
        clear hR hq HS
        subst he
        go_wp2_with fail
        exact rp_ret (b := w.heap.size) (k := 0) (n := 0) (l := []) (ec := 110) rfl rfl rfl (heap_new w _) (parseEnd_no HR.out) ((Bl.refl w).alloc _)
      | some q =>
        rw [tup2_some hq] at he
        have hql := unq_length hq
        have hR : readV (120 :: r) = if hexAll q then some (4, 0, unhex q) else none := by rw [HR.out, HS.out, hq]; simp only [Option.bind_some]; split <;> rfl
        have HR := Lib.hid hR
        clear hR hq HS
        subst he
        by_cases hev : q.length % 2 = 0
        · have hb : ((q.length : Int) % 2 == 1) = false := by simp; omega
          have HE := Lib.hid hev
          clear hev
          go_wp2_with fail
          go_loopw [10, 11, 12] (fun i _ _ wr => ∃ m : Nat, m ≤ q.length ∧ i = .int .i64 (m : Int) ∧ Hid (m % 2 = 0) ∧ Hid (∀ c ∈ q.take m, isHex c = true) ∧ Bl w wr ∧ wr.heap[w.heap.size]? = some (.cells #[.int .i64 0, .int .i64 0, .string ⟨#[]⟩] 26 (0, 0)) ∧ wr.heap[w.heap.size + 1]? = some (.cells #[.int .i64 4, .int .i64 0, .string ⟨(unhex (q.take m)).toArray⟩] 26 (0, 0))) (fun i _ _ _ => q.length - (intOf i).toNat)
          case atStart => exact ⟨0, by omega, rfl, rfl, fun c hc => by simp at hc, (((Bl.refl w).alloc _).alloc _), by rw [heap_old _ _ (by simp), heap_new], by rw [heap_new' _ _ (by simp)]; rfl⟩
          case round =>
            obtain ⟨m, hm, rfl, HM, HH, hbw, hA, hB⟩ := hrel
            by_cases hlt : m < q.length
            · have hlt1 : m + 1 < q.length := by have := HE.out; have := HM.out; omega
              have g1 := Lib.hid (get_byte q m (by rw [size_of_list]; exact hlt))
              have g2 := Lib.hid (get_byte q (m + 1) (by rw [size_of_list]; exact hlt1))
              generalize hc1 : (⟨q.toArray⟩ : ByteArray)[m]'(by rw [size_of_list]; exact hlt) = c at *
              generalize hc2 : (⟨q.toArray⟩ : ByteArray)[m + 1]'(by rw [size_of_list]; exact hlt1) = d at *
              have x1 : IntKind.i64.wrap ((m : Int) + 1) = (m : Int) + 1 := IntWalk.i64_in _ (by omega)
              have x2 : ((m : Int) + 1).toNat = m + 1 := by omega
              have x3 : 0 ≤ (m : Int) + 1 ∧ (m : Int) + 1 < (q.length : Int) := by omega
              have hv1 := hv_bound c
              have hv2 := hv_bound d
              go_wp2_with fail
              go_region_held3 (fun _ => True) (trivial)
                (first
                  | ((with_reducible refine (rdigit_any c _).mono ?_); rintro e w' ⟨rfl, rfl⟩)
                  | ((with_reducible refine (rdigit_any d _).mono ?_); rintro e w' ⟨rfl, rfl⟩))
              all_goals
                clear x1 x2 x3
                have hbw := hbw.drew
                have hA : wr.drew.heap[w.heap.size]? = _ := hA
                have hB : wr.drew.heap[w.heap.size + 1]? = _ := hB
                generalize wr.drew = W at *
                by_cases hh : 0 ≤ hv c ∧ 0 ≤ hv d
                · have hc' := (hv_hex c).2 hh.1
                  have hd' := (hv_hex d).2 hh.2
                  have HC := Lib.hid hc'
                  have HD := Lib.hid hd'
                  clear hc' hd'
                  have hun := unhex_take q m HM.out hlt hlt1
                  rw [← of_get g1.out, ← of_get g2.out] at hun
                  have HU := Lib.hid hun
                  clear hun
                  obtain ⟨a, ha, ha15⟩ : ∃ a : Nat, hv c = a ∧ a ≤ 15 := ⟨(hv c).toNat, by omega, by omega⟩
                  obtain ⟨b, hb, hb15⟩ : ∃ b : Nat, hv d = b ∧ b ≤ 15 := ⟨(hv d).toNat, by omega, by omega⟩
                  have HAB := Lib.hid (And.intro ha hb)
                  rw [ha, hb]
                  clear ha hb hh hv1 hv2
                  have hlB : w.heap.size + 1 < W.heap.size := (Array.getElem?_eq_some_iff.1 hB).1
                  have hlA : w.heap.size < W.heap.size := by omega
                  have x4 : IntKind.i64.wrap (16 * (a : Int)) = 16 * (a : Int) := IntWalk.i64_in _ (by omega)
                  have x5 : IntKind.i64.wrap (16 * (a : Int) + (b : Int)) = 16 * (a : Int) + (b : Int) := IntWalk.i64_in _ (by omega)
                  have x6 : IntKind.u8.wrap (16 * (a : Int) + (b : Int)) = 16 * (a : Int) + (b : Int) := by simp [IntKind.wrap, IntKind.bits, IntKind.signed]; omega
                  have hB2 : (W.alloc (.cells #[.int .u8 (16 * (a : Int) + (b : Int))] 5)).heap[w.heap.size + 1]? = _ := (heap_old _ _ hlB).trans hB
                  have hA2 : (W.alloc (.cells #[.int .u8 (16 * (a : Int) + (b : Int))] 5)).heap[w.heap.size]? = _ := (heap_old _ _ hlA).trans hA
                  have hN2 : (W.alloc (.cells #[.int .u8 (16 * (a : Int) + (b : Int))] 5)).heap[W.heap.size]? = _ := heap_new _ _
                  have hbw2 := hbw.alloc (.cells #[.int .u8 (16 * (a : Int) + (b : Int))] 5)
                  have hcv := run_convert_bytes_back (P := Tryz.prog) (W.alloc (.cells #[.int .u8 (16 * (a : Int) + (b : Int))] 5)) 130 9 5 ⟨W.heap.size, 0, none⟩ 1 [UInt8.ofNat (16 * a + b)] Tryz.underlying130 Tryz.underlying5 Tryz.underlying9 (by
                    intro j hj
                    obtain rfl : j = 0 := by simpa using hj
                    rw [show (⟨W.heap.size, 0, none⟩ : Addr).add 0 = ⟨W.heap.size, 0, none⟩ by simp [Addr.add], Lib.cell_of_heap hN2]
                    simp [UInt8.toNat_ofNat']
                    omega)
                  simp only [List.length_cons, List.length_nil, Nat.zero_add] at hcv
                  have q2 : W.cell? ⟨w.heap.size + 1, 2, none⟩ = some (.string ⟨(unhex (q.take m)).toArray⟩) := by rw [Lib.cell_of_heap hB]; rfl
                  have f2 := Lib.frozen_of_heap hB 2
                  have hul := unhex_length (q.take m)
                  have hul2 : (unhex (q.take m)).length ≤ 10000 := by simp at hul; omega
                  generalize hz : UInt8.ofNat (16 * a + b) = z at hcv
                  have HZ := Lib.hid hz
                  clear hz
                  go_wp2
                  go_roundw
                  case rel =>
                    refine ⟨m + 2, by omega, by go_num, by have := HM.out; show (m + 2) % 2 = 0; omega, ?_, (hbw.set (by simp) _).alloc _, ?_, ?_⟩
                    · intro y hy
                      rw [take_two hlt hlt1, ← of_get g1.out, ← of_get g2.out] at hy
                      rcases List.mem_append.1 hy with hy | hy
                      · exact HH.out y hy
                      · simp only [List.mem_cons, List.mem_nil_iff, or_false] at hy
                        rcases hy with rfl | rfl
                        · exact HC.out
                        · exact HD.out
                    · exact (heap_old _ _ (by simpa using hlA)).trans ((heap_set_other _ _ _ _ (by simp)).trans hA)
                    · refine (heap_old _ _ (by simpa using hlB)).trans ((heap_set2 _ _ _ _ _ _ _ hB).trans ?_)
                      rw [HU.out, HAB.out.1, HAB.out.2, cat_arr, ← HZ.out, show (16 * (a : Int) + (b : Int)).toNat = 16 * a + b by omega]
                      simp
                  case measure => simp [intOf]; omega
                · have hR : readV (120 :: r) = none := by
                    rw [HR.out, if_neg]
                    intro h
                    exact hh ⟨(hv_hex c).1 (h.2 c (List.mem_of_getElem? g1.out)), (hv_hex d).1 (h.2 d (List.mem_of_getElem? g2.out))⟩
                  have HR := Lib.hid hR
                  clear hR
                  have c0 : W.cell? ⟨w.heap.size, 0, none⟩ = some (.int .i64 0) := by rw [Lib.cell_of_heap hA]; rfl
                  have c1 : W.cell? ⟨w.heap.size, 1, none⟩ = some (.int .i64 0) := by rw [Lib.cell_of_heap hA]; rfl
                  have c2 : W.cell? ⟨w.heap.size, 2, none⟩ = some (.string ⟨#[]⟩) := by rw [Lib.cell_of_heap hA]; rfl
                  have f0 := Lib.frozen_of_heap hA 0
                  have f1 := Lib.frozen_of_heap hA 1
                  have f2 := Lib.frozen_of_heap hA 2
                  by_cases hc0 : 0 ≤ hv c
                  · have hd0 : hv d < 0 := by omega
                    clear hh
                    go_wp2
                    exact rp_ret (b := w.heap.size) (k := 0) (n := 0) (l := []) (ec := 110) rfl rfl rfl (heap_set3 _ _ _ _ _ _ _ _ _ hA) (parseEnd_no HR.out) (((hbw.set (by simp) _).set (by simp) _).set (by simp) _)
                  · have hc0 : hv c < 0 := by omega
                    clear hh
                    go_wp2
                    exact rp_ret (b := w.heap.size) (k := 0) (n := 0) (l := []) (ec := 110) rfl rfl rfl (heap_set3 _ _ _ _ _ _ _ _ _ hA) (parseEnd_no HR.out) (((hbw.set (by simp) _).set (by simp) _).set (by simp) _)
            · obtain rfl : m = q.length := by omega
              have hH := HH.out
              rw [List.take_length] at hH hB
              have hR : readV (120 :: r) = some (4, 0, unhex q) := by rw [HR.out, if_pos ⟨HE.out, hH⟩]
              have HR := Lib.hid hR
              clear hR hH HH HM
              have q0 : wr.cell? ⟨w.heap.size + 1, 0, none⟩ = some (.int .i64 4) := by rw [Lib.cell_of_heap hB]; rfl
              have q1 : wr.cell? ⟨w.heap.size + 1, 1, none⟩ = some (.int .i64 0) := by rw [Lib.cell_of_heap hB]; rfl
              have q2 : wr.cell? ⟨w.heap.size + 1, 2, none⟩ = some (.string ⟨(unhex q).toArray⟩) := by rw [Lib.cell_of_heap hB]; rfl
              go_wp2_with fail
              clear q0 q1 q2
              have hlA : w.heap.size < wr.heap.size := (Array.getElem?_eq_some_iff.1 hA).1
              have hlB : w.heap.size + 1 < wr.heap.size := (Array.getElem?_eq_some_iff.1 hB).1
              (with_reducible refine (rCheck_any 4 0 (unhex q) (by omega) (by omega) _).mono ?_)
              rintro e w3 ⟨rfl, hb3⟩
              have hA := (hb3.block _ hlA).trans hA
              have hB := (hb3.block _ hlB).trans hB
              have hbw := hbw.call hb3
              have q0 : w3.cell? ⟨w.heap.size + 1, 0, none⟩ = some (.int .i64 4) := by rw [Lib.cell_of_heap hB]; rfl
              have q1 : w3.cell? ⟨w.heap.size + 1, 1, none⟩ = some (.int .i64 0) := by rw [Lib.cell_of_heap hB]; rfl
              have q2 : w3.cell? ⟨w.heap.size + 1, 2, none⟩ = some (.string ⟨(unhex q).toArray⟩) := by rw [Lib.cell_of_heap hB]; rfl
              have c0 : w3.cell? ⟨w.heap.size, 0, none⟩ = some (.int .i64 0) := by rw [Lib.cell_of_heap hA]; rfl
              have c1 : w3.cell? ⟨w.heap.size, 1, none⟩ = some (.int .i64 0) := by rw [Lib.cell_of_heap hA]; rfl
              have c2 : w3.cell? ⟨w.heap.size, 2, none⟩ = some (.string ⟨#[]⟩) := by rw [Lib.cell_of_heap hA]; rfl
              have f0 := Lib.frozen_of_heap hA 0
              have f1 := Lib.frozen_of_heap hA 1
              have f2 := Lib.frozen_of_heap hA 2
              by_cases hc : chk 4 0 (unhex q) = 0
              · rw [hc]
                have HC := Lib.hid hc
                clear hc
                go_wp2_with fail
                exact rp_ret (b := w.heap.size) (k := 4) (n := 0) (l := (unhex q)) (ec := 0) rfl rfl rfl (heap_set3 _ _ _ _ _ _ _ _ _ hA) (parseEnd_ok HR.out HC.out) (((hbw.set (by simp) _).set (by simp) _).set (by simp) _)
              · have hb : (chk 4 0 (unhex q) != 0) = true := by simpa using hc
                have HC := Lib.hid hc
                clear hc
                go_wp2_with fail
                exact rp_ret (b := w.heap.size) (k := 0) (n := 0) (l := []) (ec := chk 4 0 (unhex q)) rfl rfl rfl (heap_set3 _ _ _ _ _ _ _ _ _ hA) (parseEnd_chk HR.out HC.out) (((hbw.set (by simp) _).set (by simp) _).set (by simp) _)
        · have hb : ((q.length : Int) % 2 == 1) = true := by simp; omega
          have hR : readV (120 :: r) = none := by rw [HR.out, if_neg]; intro h; exact hev h.1
          have HR := Lib.hid hR
          clear hR hev
          go_wp2_with fail
          exact rp_ret (b := w.heap.size) (k := 0) (n := 0) (l := []) (ec := 110) rfl rfl rfl ((heap_old _ _ (by simp)).trans (heap_new w _)) (parseEnd_no HR.out) (((Bl.refl w).alloc _).alloc _)
    · have HS := Lib.hid (readRest_t h120)
      have hb0 : ∀ hp : 0 < s.length, ((((⟨s.toArray⟩ : ByteArray)[0]'(by rw [size_of_list]; exact hp)).toNat : Int) == 120) = false := by
        intro hp
        have g0 := get_byte s 0 (by rw [size_of_list]; exact hp)
        cases hb : ((((⟨s.toArray⟩ : ByteArray)[0]'(by rw [size_of_list]; exact hp)).toNat : Int) == 120) with
        | false => rfl
        | true => exact absurd (g0.trans (congrArg some (byte_beq (b := 120) hb))) h120
      clear h120
      by_cases hp : 0 < s.length
      · have hb := hb0 hp
        clear hb0
        go_wp2_with fail
        (with_reducible refine (rquoted_any s hs _).mono ?_)
        rintro e w2 ⟨he, rfl⟩
        cases hq : unq s with
        | none =>
          rw [tup2_none hq] at he
          have hR : readV s = none := by rw [HR.out, HS.out, hq]; rfl
          have HR := Lib.hid hR
          clear hR hq HS hb
          subst he
          go_wp2_with fail
          exact rp_ret (b := w.heap.size) (k := 0) (n := 0) (l := []) (ec := 110) rfl rfl rfl (heap_new w _) (parseEnd_no HR.out) ((Bl.refl w).alloc _)
        | some q =>
          rw [tup2_some hq] at he
          have hR : readV s = some (3, 0, q) := by rw [HR.out, HS.out, hq]; rfl
          have HR := Lib.hid hR
          clear hR hq HS hb
          subst he
          go_wp2_with fail
          (with_reducible refine (rCheck_any 3 0 q (by omega) (by omega) _).mono ?_)
          rintro e w3 ⟨rfl, hb3⟩
          have hA : w3.heap[w.heap.size]? = some (.cells #[.int .i64 0, .int .i64 0, .string ⟨#[]⟩] 26 (0, 0)) := by rw [hb3.block _ (by simp; omega), heap_old _ _ (by simp), heap_new]
          have hB : w3.heap[w.heap.size + 1]? = some (.cells #[.int .i64 3, .int .i64 0, .string ⟨q.toArray⟩] 26 (0, 0)) := by rw [hb3.block _ (by simp), heap_new' _ _ (by simp)]
          have hbw := (((Bl.refl w).alloc _).alloc _).call hb3
          have q0 : w3.cell? ⟨w.heap.size + 1, 0, none⟩ = some (.int .i64 3) := by rw [Lib.cell_of_heap hB]; rfl
          have q1 : w3.cell? ⟨w.heap.size + 1, 1, none⟩ = some (.int .i64 0) := by rw [Lib.cell_of_heap hB]; rfl
          have q2 : w3.cell? ⟨w.heap.size + 1, 2, none⟩ = some (.string ⟨q.toArray⟩) := by rw [Lib.cell_of_heap hB]; rfl
          have c0 : w3.cell? ⟨w.heap.size, 0, none⟩ = some (.int .i64 0) := by rw [Lib.cell_of_heap hA]; rfl
          have c1 : w3.cell? ⟨w.heap.size, 1, none⟩ = some (.int .i64 0) := by rw [Lib.cell_of_heap hA]; rfl
          have c2 : w3.cell? ⟨w.heap.size, 2, none⟩ = some (.string ⟨#[]⟩) := by rw [Lib.cell_of_heap hA]; rfl
          have f0 := Lib.frozen_of_heap hA 0
          have f1 := Lib.frozen_of_heap hA 1
          have f2 := Lib.frozen_of_heap hA 2
          by_cases hc : chk 3 0 q = 0
          · rw [hc]
            have HC := Lib.hid hc
            clear hc
            go_wp2_with fail
            exact rp_ret (b := w.heap.size) (k := 3) (n := 0) (l := q) (ec := 0) rfl rfl rfl (heap_set3 _ _ _ _ _ _ _ _ _ hA) (parseEnd_ok HR.out HC.out) (((hbw.set (by simp) _).set (by simp) _).set (by simp) _)
          · have hb : (chk 3 0 q != 0) = true := by simpa using hc
            have HC := Lib.hid hc
            clear hc
            go_wp2_with fail
            exact rp_ret (b := w.heap.size) (k := 0) (n := 0) (l := []) (ec := chk 3 0 q) rfl rfl rfl (heap_set3 _ _ _ _ _ _ _ _ _ hA) (parseEnd_chk HR.out HC.out) (((hbw.set (by simp) _).set (by simp) _).set (by simp) _)
      · obtain rfl : s = [] := by simpa using hp
        clear hb0
        go_wp2_with fail
        (with_reducible refine (rquoted_any [] (by simp) _).mono ?_)
        rintro e w2 ⟨he, rfl⟩
        rw [tup2_none (by decide)] at he
        subst he
        go_wp2_with fail
        exact rp_ret (b := w.heap.size) (k := 0) (n := 0) (l := []) (ec := 110) rfl rfl rfl (heap_new w _) (parseEnd_no (by decide)) ((Bl.refl w).alloc _)

theorem rParse_any (s : List UInt8) (hs : s.length ≤ 10000) (w : World) : Calls Tryz.prog 57 #[S s] w (RParsePost s w) := by
  by_cases h0 : s = [110, 117, 108, 108]
  · rw [h0]; exact rParse_null w
  by_cases h1 : s = [102, 97, 108, 115, 101]
  · rw [h1]; exact rParse_false w
  by_cases h2 : s = [116, 114, 117, 101]
  · rw [h2]; exact rParse_true w
  exact rParse_rest s hs h0 h1 h2 w

end Go.Proofs.YtepkfkfedmbmnaaGreatDoor

