/- The reference's Number, digit. -/
import Derived.Test.YtpojlnpbadcnaaaGreatDoorVG
import Derived.Test.YtpojlnpbadcnaaaGreatDoorP3
import Derived.Lib.ItoaMem
import Derived.Lib.ItoaLen
namespace Go.Proofs.YtpojlnpbadcnaaaGreatDoor
open Go.RowKit
set_option maxRecDepth 100000

theorem digit_cut (d : Nat) (h : d < 10) : (⟨#[48, 49, 50, 51, 52, 53, 54, 55, 56, 57, 97, 98, 99, 100, 101, 102]⟩ : ByteArray).extract d (d + 1) = ⟨#[UInt8.ofNat (48 + d)]⟩ := by
  have : ∀ m : Fin 10, (⟨#[48, 49, 50, 51, 52, 53, 54, 55, 56, 57, 97, 98, 99, 100, 101, 102]⟩ : ByteArray).extract m.val (m.val + 1) = ⟨#[UInt8.ofNat (48 + m.val)]⟩ := by decide
  exact this ⟨d, h⟩

theorem dec_small {u : Nat} (h : u < 10) : Lib.decDigits u = [UInt8.ofNat (48 + u % 10)] := by rw [Lib.decDigits_one h, Nat.mod_eq_of_lt h]
theorem dec_big {u : Nat} (h : ¬ u < 10) : Lib.decDigits u = Lib.decDigits (u / 10) ++ [UInt8.ofNat (48 + u % 10)] := by rw [Lib.decDigits, dif_neg h]

theorem cut_cat (d : Nat) (h : d < 10) (t : List UInt8) : (⟨#[48, 49, 50, 51, 52, 53, 54, 55, 56, 57, 97, 98, 99, 100, 101, 102]⟩ : ByteArray).extract d (d + 1) ++ (⟨t.toArray⟩ : ByteArray) = ⟨(UInt8.ofNat (48 + d) :: t).toArray⟩ := by
  rw [digit_cut d h]
  apply ByteArray.ext
  simp
theorem dec_len {u : Nat} (h : u ≤ 9223372036854775808) : (Lib.decDigits u).length ≤ 21 := by
  by_cases h0 : u = 0
  · subst h0; rw [Lib.decDigits_one (by omega)]; decide
  have := Lib.itoa_length_le (-(u : Int)) (by omega) (by omega)
  rw [Lib.itoa_neg u (by omega)] at this
  simp at this; omega

set_option maxHeartbeats 1000000 in
theorem rNumber_pos (u : Nat) (hu : u ≤ 9223372036854775807) (w : World) : Calls Tryz.prog 38 #[.int .i64 (u : Int)] w fun e w' => e = .returned (S (Lib.decDigits u)) ∧ w' = w := by
  have hdl := dec_len (u := u) (by omega)
  go_enter Tryz.func38, Tryz.ntmps38
  go_wp2
  go_loop [3, 4] (fun a m => ∃ (v : Nat) (t : List UInt8), v ≤ u ∧ m = .int .i64 (v : Int) ∧ a = S t ∧ Hid (Lib.decDigits u = Lib.decDigits v ++ t)) (fun _ m => (intOf m).toNat)
  case atStart => exact ⟨u, [], Nat.le_refl _, rfl, rfl, by show _ = _; simp⟩
  case round =>
    obtain ⟨v, t, hv, rfl, rfl, HD⟩ := hrel
    have htl : t.length ≤ 21 := by have := congrArg List.length HD.out; simp at this; omega
    have hsz : ¬ 9223372036854775807 < min (v % 10 + 1) 16 - v % 10 + t.length := by omega
    have hcc := cut_cat (v % 10) (by omega) t
    have HCC := Lib.hid hcc
    clear hcc
    by_cases h10 : v < 10
    · have hb : ((v : Int) / 10 == 0) = true := by simp; omega
      go_wp2
      go_ret
      refine ⟨?_, rfl⟩
      rw [HCC.out, HD.out, dec_small h10]
      rfl
    · have hb : ((v : Int) / 10 == 0) = false := by simp; omega
      go_wp2
      go_round
      case rel =>
        refine ⟨v / 10, UInt8.ofNat (48 + v % 10) :: t, by omega, by go_num, by rw [HCC.out], ?_⟩
        show _ = _
        rw [HD.out, dec_big h10]; simp
      case measure => simp [intOf]; omega

set_option maxHeartbeats 1000000 in
theorem rNumber_neg (u : Nat) (h1 : 1 ≤ u) (hu : u ≤ 9223372036854775808) (w : World) : Calls Tryz.prog 38 #[.int .i64 (-(u : Int))] w fun e w' => e = .returned (S (45 :: Lib.decDigits u)) ∧ w' = w := by
  have hdl := dec_len hu
  go_enter Tryz.func38, Tryz.ntmps38
  go_wp2
  go_loop [3, 4] (fun a m => ∃ (v : Nat) (t : List UInt8), v ≤ u ∧ m = .int .i64 (-(v : Int)) ∧ a = S t ∧ Hid (Lib.decDigits u = Lib.decDigits v ++ t)) (fun _ m => (-(intOf m)).toNat)
  case atStart => exact ⟨u, [], Nat.le_refl _, rfl, rfl, by show _ = _; simp⟩
  case round =>
    obtain ⟨v, t, hv, rfl, rfl, HD⟩ := hrel
    have htl : t.length ≤ 21 := by have := congrArg List.length HD.out; simp at this; omega
    have m2 : (-(v : Int)).tdiv 10 = -((v / 10 : Nat) : Int) := by rw [Int.neg_tdiv]; rfl
    by_cases hz : v % 10 = 0
    · skip
      have m1 : (-(v : Int)).tmod 10 = 0 := by rw [Int.neg_tmod]; show -((v % 10 : Nat) : Int) = 0; omega
      have hsz : ¬ 9223372036854775807 < 1 + t.length := by omega
      have hcc : (⟨#[48, 49, 50, 51, 52, 53, 54, 55, 56, 57, 97, 98, 99, 100, 101, 102]⟩ : ByteArray).extract 0 1 ++ (⟨t.toArray⟩ : ByteArray) = ⟨(UInt8.ofNat (48 + v % 10) :: t).toArray⟩ := by rw [cut_cat 0 (by omega) t, hz]
      have HCC := Lib.hid hcc
      clear hcc
      have HZ := Lib.hid hz
      clear hz
      by_cases h10 : v < 10
      · have hb : (-((v : Int) / 10) == 0) = true := by simp; omega
        go_wp2
        go_ret
        refine ⟨?_, rfl⟩
        rw [HCC.out, HD.out, dec_small h10]
        exact ret_S (by simp)
      · have hb : (-((v : Int) / 10) == 0) = false := by simp; omega
        go_wp2
        go_round
        case rel =>
          refine ⟨v / 10, UInt8.ofNat (48 + v % 10) :: t, by omega, by go_num, by rw [HCC.out], ?_⟩
          show _ = _
          rw [HD.out, dec_big h10]; simp
        case measure => simp [intOf]; omega
    · skip
      have m1 : (-(v : Int)).tmod 10 = -((v % 10 : Nat) : Int) := by rw [Int.neg_tmod]; rfl
      have m3 : 0 < (v : Int) % 10 := by omega
      have hsz : ¬ 9223372036854775807 < min (v % 10 + 1) 16 - v % 10 + t.length := by omega
      have hcc := cut_cat (v % 10) (by omega) t
      have HCC := Lib.hid hcc
      clear hcc
      have HZ := Lib.hid hz
      clear hz
      by_cases h10 : v < 10
      · have hb : (-((v : Int) / 10) == 0) = true := by simp; omega
        go_wp2
        go_ret
        refine ⟨?_, rfl⟩
        rw [HCC.out, HD.out, dec_small h10]
        exact ret_S (by simp)
      · have hb : (-((v : Int) / 10) == 0) = false := by simp; omega
        go_wp2
        go_round
        case rel =>
          refine ⟨v / 10, UInt8.ofNat (48 + v % 10) :: t, by omega, by go_num, by rw [HCC.out], ?_⟩
          show _ = _
          rw [HD.out, dec_big h10]; simp
        case measure => simp [intOf]; omega

theorem rNumber_any (n : Int) (h0 : -9223372036854775808 ≤ n) (h1 : n ≤ 9223372036854775807) (w : World) : Calls Tryz.prog 38 #[.int .i64 n] w fun e w' => e = .returned (S (Lib.itoa n)) ∧ w' = w := by
  by_cases h : n < 0
  · obtain ⟨u, rfl⟩ : ∃ u : Nat, n = -(u : Int) := ⟨n.natAbs, by omega⟩
    rw [Lib.itoa_neg u (by omega)]
    exact rNumber_neg u (by omega) (by omega) w
  · obtain ⟨u, rfl⟩ : ∃ u : Nat, n = (u : Int) := ⟨n.toNat, by omega⟩
    rw [Lib.itoa_nonneg]
    exact rNumber_pos u (by omega) w

end Go.Proofs.YtpojlnpbadcnaaaGreatDoor
