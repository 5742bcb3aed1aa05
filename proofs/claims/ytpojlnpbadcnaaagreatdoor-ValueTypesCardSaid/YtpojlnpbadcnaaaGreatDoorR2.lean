/- The reference's digit, quoted. -/
import Derived.Test.YtpojlnpbadcnaaaGreatDoorR1
import Derived.Test.YtpojlnpbadcnaaaGreatDoorVH
namespace Go.Proofs.YtpojlnpbadcnaaaGreatDoor
open Go.RowKit
set_option maxRecDepth 100000

theorem indexByte_first : ∀ (l : List UInt8) (c : UInt8) (k : Nat), (∀ j, j < k → l[j]? ≠ some c) → l[k]? = some c → Lib.indexByte l c = k
  | [], c, k, _, h => by simp at h
  | a :: r, c, 0, _, h => by simp at h; simp [Lib.indexByte, h]
  | a :: r, c, k + 1, hn, h => by
    have ha : a ≠ c := fun e => hn 0 (by omega) (by simp [e])
    have ih := indexByte_first r c k (fun j hj => by have := hn (j + 1) (by omega); simpa using this) (by simpa using h)
    simp [Lib.indexByte, ha, ih]
theorem indexByte_none : ∀ (l : List UInt8) (c : UInt8), (∀ j, j < l.length → l[j]? ≠ some c) → Lib.indexByte l c = -1
  | [], c, _ => rfl
  | a :: r, c, hn => by
    have ha : a ≠ c := fun e => hn 0 (by simp) (by simp [e])
    have ih := indexByte_none r c (fun j hj => by have := hn (j + 1) (by simp; omega); simpa using this)
    simp [Lib.indexByte, ha, ih]

theorem byte_beq {a b : UInt8} (h : ((a.toNat : Int) == (b.toNat : Int)) = true) : a = b := UInt8.toNat_inj.1 (by have := beq_iff_eq.1 h; omega)
theorem byte_bne {a b : UInt8} (h : ((a.toNat : Int) == (b.toNat : Int)) = false) : a ≠ b := fun e => by subst e; simp at h
theorem digits_get (k : Nat) (h : k < (⟨#[48, 49, 50, 51, 52, 53, 54, 55, 56, 57, 97, 98, 99, 100, 101, 102]⟩ : ByteArray).size) : digitsL[k]? = some ((⟨#[48, 49, 50, 51, 52, 53, 54, 55, 56, 57, 97, 98, 99, 100, 101, 102]⟩ : ByteArray)[k]) := by
  have h' : k < 16 := h
  have : ∀ m : Fin 16, digitsL[m.val]? = some ((⟨#[48, 49, 50, 51, 52, 53, 54, 55, 56, 57, 97, 98, 99, 100, 101, 102]⟩ : ByteArray)[m.val]'m.isLt) := by decide
  exact this ⟨k, h'⟩

set_option maxHeartbeats 1000000 in
theorem rdigit_any (c : UInt8) (w : World) : Calls Tryz.prog 43 #[.int .u8 c.toNat] w fun e w' => e = .returned (.int .i64 (hv c)) ∧ w' = w := by
  go_enter Tryz.func43, Tryz.ntmps43
  go_wp2
  go_loop [3] (fun i => ∃ k : Nat, k ≤ 16 ∧ i = .int .i64 (k : Int) ∧ Hid (∀ j, j < k → digitsL[j]? ≠ some c)) (fun i => 16 - (intOf i).toNat)
  case atStart => exact ⟨0, by omega, rfl, fun j hj => by omega⟩
  case round =>
    obtain ⟨k, hk, rfl, HN⟩ := hrel
    by_cases hlt : k < 16
    · have hg := digits_get k hlt
      have HG := Lib.hid hg
      clear hg
      go_wp2
      · have hx := byte_beq ‹((_ : Int) == _) = true›
        go_ret
        refine ⟨ret_int ?_, rfl⟩
        exact (indexByte_first digitsL c k HN.out (by rw [HG.out, hx])).symm
      · have hx := byte_bne ‹((_ : Int) == _) = false›
        go_round
        case rel =>
          refine ⟨k + 1, by omega, by go_num, ?_⟩
          intro j hj
          by_cases hjk : j < k
          · exact HN.out j hjk
          · obtain rfl : j = k := by omega
            rw [HG.out]; intro e; injection e with e; exact hx e
        case measure => simp [intOf]; omega
    · go_wp2
      go_ret
      refine ⟨ret_int ?_, rfl⟩
      obtain rfl : k = 16 := by omega
      exact (indexByte_none digitsL c HN.out).symm

/-- What stands between the quotes, read a unit at a time. -/
def qd : List UInt8 → Option (List UInt8)
  | [] => some []
  | [c] => if c = 39 then none else some [c]
  | c :: d :: r => if c = 39 then (if d = 39 then (qd r).map (39 :: ·) else none) else (qd (d :: r)).map (c :: ·)

theorem qd_hit (r : List UInt8) : qd (39 :: 39 :: r) = (qd r).map (39 :: ·) := by simp [qd]
theorem qd_bad (d : UInt8) (r : List UInt8) (h : d ≠ 39) : qd (39 :: d :: r) = none := by simp [qd, h]
theorem qd_end : qd [39] = none := by simp [qd]
theorem qd_skip (c : UInt8) (r : List UInt8) (h : c ≠ 39) : qd (c :: r) = (qd r).map (c :: ·) := by
  cases r <;> simp [qd, h]
def rquotedV (l : List UInt8) : Option (List UInt8) := (cutQ l).bind qd

theorem drop_cons {l : List UInt8} {k : Nat} (h : k < l.length) : l.drop k = l[k] :: l.drop (k + 1) := List.drop_eq_getElem_cons h

def tup2 (x : Option (List UInt8)) : Ending := match x with
  | some q => .returned (.tuple #[S q, .bool true])
  | none => .returned (.tuple #[S [], .bool false])

theorem get_byte (l : List UInt8) (k : Nat) (h : k < (⟨l.toArray⟩ : ByteArray).size) : l[k]? = some ((⟨l.toArray⟩ : ByteArray)[k]) := by
  have h' : k < l.length := by rw [size_of_list] at h; exact h
  rw [List.getElem?_eq_getElem h']
  rfl
theorem cat_cut (o r : List UInt8) (k : Nat) (h : k < r.length) : (⟨o.toArray⟩ : ByteArray) ++ (⟨r.toArray⟩ : ByteArray).extract k (k + 1) = ⟨(o ++ [r[k]]).toArray⟩ := by
  apply ByteArray.ext
  apply Array.ext'
  simp only [ByteArray.data_append, ByteArray.data_extract, Array.toList_append, Array.toList_extract]
  simp only [List.extract_eq_take_drop]
  rw [drop_cons h]
  simp only [Nat.add_sub_cancel_left, List.take_succ_cons, List.take_zero]
theorem mid_cut (r : List UInt8) (l : List UInt8) (h : l = 39 :: (r ++ [39])) : (⟨l.toArray⟩ : ByteArray).extract 1 (l.length - 1) = ⟨r.toArray⟩ := by
  subst h
  apply ByteArray.ext
  apply Array.ext'
  simp only [ByteArray.data_extract, Array.toList_extract, List.extract_eq_take_drop]
  simp
theorem cutQ_none_of {l : List UInt8} (h : ∀ r, l ≠ 39 :: (r ++ [39])) : cutQ l = none := by
  cases hq : cutQ l with
  | none => rfl
  | some r => exact absurd ((cutQ_iff l r).1 hq) (h r)
theorem ends_of {l r : List UInt8} (h : l = 39 :: (r ++ [39])) : l[0]? = some 39 ∧ l[l.length - 1]? = some 39 := by
  subst h
  constructor
  · rfl
  · rw [← List.getLast?_eq_getElem?, ← List.cons_append, List.getLast?_concat]
theorem cutQ_ends {l : List UInt8} (h2 : 2 ≤ l.length) (h0 : l[0]? = some 39) (h1 : l[l.length - 1]? = some 39) : ∃ r, l = 39 :: (r ++ [39]) := by
  rw [← List.getLast?_eq_getElem?, List.getLast?_eq_some_iff] at h1
  obtain ⟨ys, rfl⟩ := h1
  match ys, h2, h0 with
  | [], h2, _ => simp at h2
  | a :: t, _, h0 => simp at h0; subst h0; exact ⟨t, rfl⟩

theorem qd_at_bad {r : List UInt8} {k : Nat} {c d : UInt8} (h : r[k]? = some c) (h' : r[k + 1]? = some d) (hc : c = 39) (hd : d ≠ 39) : qd (r.drop k) = none := by
  obtain ⟨hk, rfl⟩ := List.getElem?_eq_some_iff.1 h
  obtain ⟨hk', rfl⟩ := List.getElem?_eq_some_iff.1 h'
  rw [drop_cons hk, drop_cons hk', hc]; exact qd_bad _ _ hd
theorem qd_at_end {r : List UInt8} {k : Nat} {c : UInt8} (h : r[k]? = some c) (h' : k + 1 = r.length) (hc : c = 39) : qd (r.drop k) = none := by
  obtain ⟨hk, rfl⟩ := List.getElem?_eq_some_iff.1 h
  rw [drop_cons hk, hc, List.drop_of_length_le (by omega)]; exact qd_end
theorem qd_at_hit {r : List UInt8} {k : Nat} {c d : UInt8} (h : r[k]? = some c) (h' : r[k + 1]? = some d) (hc : c = 39) (hd : d = 39) : qd (r.drop k) = (qd (r.drop (k + 2))).map (r[k]'(List.getElem?_eq_some_iff.1 h).1 :: ·) := by
  obtain ⟨hk, rfl⟩ := List.getElem?_eq_some_iff.1 h
  obtain ⟨hk', rfl⟩ := List.getElem?_eq_some_iff.1 h'
  rw [drop_cons hk, drop_cons hk', hc, hd]; exact qd_hit _
theorem qd_at_skip {r : List UInt8} {k : Nat} {c : UInt8} (h : r[k]? = some c) (hc : c ≠ 39) : qd (r.drop k) = (qd (r.drop (k + 1))).map (r[k]'(List.getElem?_eq_some_iff.1 h).1 :: ·) := by
  obtain ⟨hk, rfl⟩ := List.getElem?_eq_some_iff.1 h
  rw [drop_cons hk]; exact qd_skip _ _ hc
theorem map_snoc (x : Option (List UInt8)) (o : List UInt8) (a : UInt8) : (x.map (a :: ·)).map (o ++ ·) = x.map ((o ++ [a]) ++ ·) := by
  cases x <;> simp

set_option maxHeartbeats 1000000 in
theorem rquoted_short (l : List UInt8) (h : l.length < 2) (w : World) : Calls Tryz.prog 42 #[S l] w fun e w' => e = tup2 (rquotedV l) ∧ w' = w := by
  have hq : cutQ l = none := cutQ_none_of fun r e => by rw [e] at h; simp at h; omega
  have HQ := Lib.hid hq
  clear hq
  go_enter Tryz.func42, Tryz.ntmps42
  go_wp2
  go_ret2
  exact ⟨by simp [rquotedV, HQ.out, tup2], rfl⟩

set_option maxHeartbeats 1000000 in
theorem rquoted_any (l : List UInt8) (hl : l.length ≤ 10000) (w : World) : Calls Tryz.prog 42 #[S l] w fun e w' => e = tup2 (rquotedV l) ∧ w' = w := by
  by_cases h2' : l.length < 2
  · exact rquoted_short l h2' w
  have h2 : ¬ l.length < 2 := by omega
  clear h2'
  have g0 := get_byte l 0 (by rw [size_of_list]; omega)
  have g1 := get_byte l (l.length - 1) (by rw [size_of_list]; omega)
  have G0 := Lib.hid g0
  have G1 := Lib.hid g1
  clear g0 g1
  go_enter Tryz.func42, Tryz.ntmps42
  go_wp2
  · have hx : (⟨l.toArray⟩ : ByteArray)[l.length - 1]'(by rw [size_of_list]; omega) ≠ 39 := by
      have hh := ‹_ ∨ (_ != (39 : Int)) = true›
      rcases hh with hh | hh
      · omega
      · intro e; rw [e] at hh; simp at hh
    have hq : cutQ l = none := cutQ_none_of fun r e => by
      have h1 := (ends_of e).2
      rw [G1.out] at h1
      injection h1 with h1
      exact hx h1
    go_ret2
    exact ⟨by simp [rquotedV, hq, tup2], rfl⟩
  · obtain ⟨r, hr⟩ : ∃ r, l = 39 :: (r ++ [39]) := by
      refine cutQ_ends (by omega) ?_ ?_
      · rw [G0.out]; congr 1
        have := ‹(_ : Int) = 39›
        exact UInt8.toNat_inj.1 (by show _ = 39; omega)
      · rw [G1.out]; congr 1
        have hh := (‹_ ∧ (_ != (39 : Int)) = false›).2
        simp only [bne_eq_false_iff_eq] at hh
        exact UInt8.toNat_inj.1 (by show _ = 39; omega)
    have hlr : r.length + 2 = l.length := by rw [hr]; simp
    have hcut := mid_cut r l hr
    have HV : Hid (rquotedV l = qd r) := by show _ = _; unfold rquotedV; rw [(cutQ_iff l r).2 hr]; rfl
    have HL := Lib.hid hlr
    have hrl : r.length ≤ 10000 := by omega
    clear hr hlr
    rw [hcut]
    clear hcut
    rename (2 : Int) ≤ _ ∧ (_ != (39 : Int)) = false => hlast
    clear hlast
    go_loop [5, 6] (fun a i => ∃ (k : Nat) (o : List UInt8), k ≤ r.length ∧ i = .int .i64 (k : Int) ∧ a = S o ∧ o.length ≤ k ∧ Hid (qd r = (qd (r.drop k)).map (o ++ ·))) (fun _ i => r.length - (intOf i).toNat)
    case atStart => exact ⟨0, [], Nat.zero_le _, rfl, rfl, Nat.le_refl _, by show _ = _; simp⟩
    case round =>
      obtain ⟨k, o, hk, rfl, rfl, ho, HD⟩ := hrel
      by_cases hlt : k < r.length
      · have hcc := cat_cut o r k hlt
        have HCC := Lib.hid hcc
        have hsz : ¬ 9223372036854775807 < o.length + (min (k + 1) r.length - k) := by omega
        have gk := get_byte r k (by rw [size_of_list]; exact hlt)
        have GK := Lib.hid gk
        clear hcc gk
        by_cases hk1 : k + 1 < r.length
        · have gk1 := get_byte r (k + 1) (by rw [size_of_list]; exact hk1)
          have GK1 := Lib.hid gk1
          clear gk1
          go_wp2
          · have hc := byte_beq (b := 39) ‹((_ : Int) == 39) = true›
            have hd : (⟨r.toArray⟩ : ByteArray)[k + 1]'(by rw [size_of_list]; omega) ≠ 39 := by
              have hh := ‹_ ∨ (_ != (39 : Int)) = true›
              rcases hh with hh | hh
              · simp at hh; omega
              · intro e; rw [e] at hh; simp at hh
            go_ret2
            refine ⟨?_, rfl⟩
            rw [HV.out, HD.out, qd_at_bad GK.out GK1.out hc hd]; rfl
          · have hc := byte_beq (b := 39) ‹((_ : Int) == 39) = true›
            have hd : (⟨r.toArray⟩ : ByteArray)[k + 1]'(by rw [size_of_list]; omega) = 39 := by
              have hh := (‹_ ∧ (_ != (39 : Int)) = false›).2
              simp only [bne_eq_false_iff_eq] at hh
              exact UInt8.toNat_inj.1 (by show _ = 39; omega)
            go_round
            case rel =>
              refine ⟨k + 2, o ++ [r[k]], by omega, by go_num, by rw [HCC.out], by simp; omega, ?_⟩
              show _ = _
              rw [HD.out, qd_at_hit GK.out GK1.out hc hd, map_snoc]
            case measure => simp [intOf]; omega
          · have hc := byte_bne (b := 39) ‹((_ : Int) == 39) = false›
            go_round
            case rel =>
              refine ⟨k + 1, o ++ [r[k]], by omega, rfl, by rw [HCC.out], by simp; omega, ?_⟩
              show _ = _
              rw [HD.out, qd_at_skip GK.out hc, map_snoc]
            case measure => simp [intOf]; omega
        · go_wp2
          · have hc := byte_beq (b := 39) ‹((_ : Int) == 39) = true›
            go_ret2
            refine ⟨?_, rfl⟩
            rw [HV.out, HD.out, qd_at_end GK.out (by omega) hc]; rfl
          · have hc := byte_bne (b := 39) ‹((_ : Int) == 39) = false›
            go_round
            case rel =>
              refine ⟨k + 1, o ++ [r[k]], by omega, rfl, by rw [HCC.out], by simp; omega, ?_⟩
              show _ = _
              rw [HD.out, qd_at_skip GK.out hc, map_snoc]
            case measure => simp [intOf]; omega
      · obtain rfl : k = r.length := by omega
        go_wp2
        go_ret2
        refine ⟨?_, rfl⟩
        rw [HV.out, HD.out]
        simp [qd, tup2]
  · have hx : (⟨l.toArray⟩ : ByteArray)[0]'(by rw [size_of_list]; omega) ≠ 39 := by
      have hh := ‹¬ (_ : Int) = 39›
      intro e; rw [e] at hh; exact hh rfl
    have hq : cutQ l = none := cutQ_none_of fun r e => by
      have h1 := (ends_of e).1
      rw [G0.out] at h1
      injection h1 with h1
      exact hx h1
    go_ret2
    exact ⟨by simp [rquotedV, hq, tup2], rfl⟩

end Go.Proofs.YtpojlnpbadcnaaaGreatDoor
