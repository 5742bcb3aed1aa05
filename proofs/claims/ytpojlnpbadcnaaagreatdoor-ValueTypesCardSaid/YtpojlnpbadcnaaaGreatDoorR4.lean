/- The reference's Literal. -/
import Derived.Test.YtpojlnpbadcnaaaGreatDoorR3
import Derived.Test.YtpojlnpbadcnaaaGreatDoorV5
namespace Go.Proofs.YtpojlnpbadcnaaaGreatDoor
open Go.RowKit
set_option maxRecDepth 100000

theorem chk_ways {k n : Int} {l : List UInt8} (h : chk k n l = 0) : l.length ≤ 1000 ∧ ((k = 0 ∧ n = 0 ∧ l = []) ∨ (k = 1 ∧ n = 0 ∧ l = []) ∨ (k = 1 ∧ n = 1 ∧ l = []) ∨ (k = 2 ∧ l = []) ∨ (k = 3 ∧ n = 0) ∨ (k = 4 ∧ n = 0)) := by
  unfold chk at h
  split at h
  · omega
  · split at h
    · rename_i h1 h2
      refine ⟨by omega, ?_⟩
      rcases h2 with h2 | ⟨a, b | b, c⟩ | h2 | h2 | h2
      · exact Or.inl h2
      · exact Or.inr (Or.inl ⟨a, b, c⟩)
      · exact Or.inr (Or.inr (Or.inl ⟨a, b, c⟩))
      · exact Or.inr (Or.inr (Or.inr (Or.inl h2)))
      · exact Or.inr (Or.inr (Or.inr (Or.inr (Or.inl h2))))
      · exact Or.inr (Or.inr (Or.inr (Or.inr (Or.inr h2))))
    · omega

theorem of_get {l : List UInt8} {k : Nat} {c : UInt8} (h : l[k]? = some c) : c = l[k]'(List.getElem?_eq_some_iff.1 h).1 := (List.getElem?_eq_some_iff.1 h).2.symm
theorem dbl_append (a b : List UInt8) : dbl (a ++ b) = dbl a ++ dbl b := by
  induction a with
  | nil => rfl
  | cons c r ih => simp only [List.cons_append, dbl]; split <;> simp [ih]
theorem dbl_next {l : List UInt8} {k : Nat} {c : UInt8} (h : l[k]? = some c) : dbl (l.take (k + 1)) = dbl (l.take k) ++ (if c = 39 then [39, 39] else [c]) := by
  rw [List.take_add_one, h, dbl_append]; simp [dbl]
theorem cat_list (a b : List UInt8) : (⟨a.toArray⟩ : ByteArray) ++ (⟨b.toArray⟩ : ByteArray) = ⟨(a ++ b).toArray⟩ := by
  apply ByteArray.ext
  simp
theorem cat_arr (a b : Array UInt8) : (⟨a⟩ : ByteArray) ++ (⟨b⟩ : ByteArray) = ⟨a ++ b⟩ := by
  apply ByteArray.ext
  simp
theorem hexOf_next {l : List UInt8} {k : Nat} {c : UInt8} (h : l[k]? = some c) : hexOf (l.take (k + 1)) = hexOf (l.take k) ++ [hexDigit (c.toNat / 16), hexDigit (c.toNat % 16)] := by
  rw [List.take_add_one, h]; simp [hexOf]
theorem hex_cut (d : Nat) (h : d < 16) : (⟨#[48, 49, 50, 51, 52, 53, 54, 55, 56, 57, 97, 98, 99, 100, 101, 102]⟩ : ByteArray).extract d (d + 1) = ⟨#[hexDigit d]⟩ := by
  have : ∀ m : Fin 16, (⟨#[48, 49, 50, 51, 52, 53, 54, 55, 56, 57, 97, 98, 99, 100, 101, 102]⟩ : ByteArray).extract m.val (m.val + 1) = ⟨#[hexDigit m.val]⟩ := by decide
  exact this ⟨d, h⟩

set_option maxHeartbeats 1000000 in
theorem rLiteral_no (k n : Int) (l : List UInt8) (h : ¬ chk k n l = 0) (hk0 : -9223372036854775808 ≤ k) (hk1 : k ≤ 9223372036854775807) (w : World) :
    Calls Tryz.prog 11 #[V k n l] w fun e w' => e = .returned (.tuple #[S [], .int .i64 (chk k n l)]) ∧ Bl w w' := by
  have hb : (chk k n l != 0) = true := by simpa using h
  go_enter Tryz.func11, Tryz.ntmps11
  go_wp2_with fail
  (with_reducible refine (rCheck_any k n l hk0 hk1 _).mono ?_)
  rintro e w1 ⟨rfl, hb1⟩
  go_wp2_with fail
  go_ret2
  exact ⟨rfl, ((Bl.refl w).alloc _).call hb1⟩

set_option maxHeartbeats 1000000 in
theorem rLiteral_ok (k n : Int) (l : List UInt8) (h : chk k n l = 0) (h0 : -9223372036854775808 ≤ n) (h1 : n ≤ 9223372036854775807) (w : World) :
    Calls Tryz.prog 11 #[V k n l] w fun e w' => e = .returned (.tuple #[S (lit k n l), .int .i64 0]) ∧ Bl w w' := by
  obtain ⟨hl, hc⟩ := chk_ways h
  have H := Lib.hid h
  have HC := Lib.hid hc
  have hk0 : 0 ≤ k ∧ k ≤ 4 := by omega
  clear h hc
  go_enter Tryz.func11, Tryz.ntmps11
  go_wp2_with fail
  (with_reducible refine (rCheck_any k n l (by omega) (by omega) _).mono ?_)
  rintro e w1 ⟨rfl, hb1⟩
  have hbW : Bl w w1 := ((Bl.refl w).alloc _).call hb1
  obtain ⟨hcl, hfz⟩ := bcell hb1
  have c0 := hcl w.heap.size 0 (by simp)
  have c1 := hcl w.heap.size 1 (by simp)
  have c2 := hcl w.heap.size 2 (by simp)
  simp [go_sem] at c0 c1 c2
  clear hcl hfz hb1
  have hz := H.out
  rw [hz]
  have hcs := HC.out
  clear HC H hk0
  rcases hcs with ⟨rfl, rfl, rfl⟩ | ⟨rfl, rfl, rfl⟩ | ⟨rfl, rfl, rfl⟩ | ⟨rfl, rfl⟩ | ⟨rfl, rfl⟩ | ⟨rfl, rfl⟩
  · clear hz
    go_wp2_with fail
    go_ret2
    exact ⟨rfl, hbW⟩
  · clear hz
    go_wp2_with fail
    go_ret2
    exact ⟨rfl, hbW⟩
  · clear hz
    go_wp2_with fail
    go_ret2
    exact ⟨rfl, hbW⟩
  · clear hz
    go_wp2_with fail
    (with_reducible refine (rNumber_any n h0 h1 _).mono ?_)
    rintro e w2 ⟨rfl, rfl⟩
    go_wp2_with fail
    go_ret2
    exact ⟨rfl, hbW⟩
  · clear hz
    go_wp2_with fail
    go_loop [5, 6] (fun a i => ∃ (k : Nat) (o : List UInt8), k ≤ l.length ∧ i = .int .i64 (k : Int) ∧ a = S o ∧ o.length ≤ 2 * k ∧ Hid (dbl (l.take k) = o)) (fun _ i => l.length - (intOf i).toNat)
    case atStart => exact ⟨0, [], Nat.zero_le _, rfl, rfl, Nat.le_refl _, by show _ = _; simp [dbl]⟩
    case round =>
      obtain ⟨k, o, hk, rfl, rfl, ho, HD⟩ := hrel
      by_cases hlt : k < l.length
      · have hcc := cat_cut o l k hlt
        have HCC := Lib.hid hcc
        have hsz : ¬ 9223372036854775807 < o.length + (min (k + 1) l.length - k) := by omega
        have hsz2 : ¬ 9223372036854775807 < o.length + (min (k + 1) l.length - k) + 1 := by omega
        have gk := get_byte l k (by rw [size_of_list]; exact hlt)
        have GK := Lib.hid gk
        clear hcc gk
        go_wp2
        · have hc := byte_beq (b := 39) ‹((_ : Int) == 39) = true›
          go_round
          case rel =>
            refine ⟨k + 1, o ++ [l[k]] ++ [39], by omega, rfl, by rw [HCC.out, cat_list], by simp; omega, ?_⟩
            show _ = _
            rw [dbl_next GK.out, HD.out, if_pos hc, ← of_get GK.out, hc]
            simp
          case measure => simp [intOf]; omega
        · have hc := byte_bne (b := 39) ‹((_ : Int) == 39) = false›
          go_round
          case rel =>
            refine ⟨k + 1, o ++ [l[k]], by omega, rfl, by rw [HCC.out], by simp; omega, ?_⟩
            show _ = _
            rw [dbl_next GK.out, HD.out, if_neg hc, ← of_get GK.out]
          case measure => simp [intOf]; omega
      · obtain rfl : k = l.length := by omega
        have hsz : ¬ 9223372036854775807 < 1 + o.length := by omega
        have hsz2 : ¬ 9223372036854775807 < 1 + o.length + 1 := by omega
        have hD := HD.out
        rw [List.take_length] at hD
        go_wp2
        go_ret2
        refine ⟨?_, hbW⟩
        rw [cat_arr, cat_arr]
        simp [lit, litText, hD]
  · clear hz
    go_wp2_with fail
    go_loopw [5, 7, 8] (fun a i _ wr => ∃ (k : Nat) (o : List UInt8), k ≤ l.length ∧ i = .int .i64 (k : Int) ∧ a = S o ∧ o.length ≤ 2 * k ∧ Hid (hexOf (l.take k) = o) ∧ Bl w1 wr) (fun _ i _ _ => l.length - (intOf i).toNat)
    case atStart => exact ⟨0, [], Nat.zero_le _, rfl, rfl, Nat.le_refl _, by show _ = _; simp [hexOf], Bl.refl _⟩
    case round =>
      obtain ⟨k, o, hk, rfl, rfl, ho, HD, hbr⟩ := hrel
      have d2 := hbr.cell c2
      by_cases hlt : k < l.length
      · have gk := get_byte l k (by rw [size_of_list]; exact hlt)
        have GK := Lib.hid gk
        clear gk
        generalize hm : (⟨l.toArray⟩ : ByteArray)[k]'(by rw [size_of_list]; exact hlt) = c at *
        have hc8 : c.toNat < 256 := c.toNat_lt
        go_wp2_with fail
        go_region
        go_wp2
        go_roundw
        case rel =>
          refine ⟨k + 1, o ++ [hexDigit (c.toNat / 16), hexDigit (c.toNat % 16)], by omega, rfl, ?_, by simp; omega, ?_, hbr.drew⟩
          · rw [hex_cut _ (by omega), hex_cut _ (by omega), cat_arr, cat_arr]; simp [S]
          · show _ = _
            rw [hexOf_next GK.out, HD.out]
        case measure => simp [intOf]; omega
      · obtain rfl : k = l.length := by omega
        have hsz : ¬ 9223372036854775807 < 2 + o.length := by omega
        have hsz2 : ¬ 9223372036854775807 < 2 + o.length + 1 := by omega
        have hD := HD.out
        rw [List.take_length] at hD
        go_wp2
        go_ret2
        refine ⟨?_, hbW.call hbr⟩
        rw [cat_arr, cat_arr]
        simp [lit, litBlob, hD]

end Go.Proofs.YtpojlnpbadcnaaaGreatDoor
