/- ValueTruths: the walk. -/
import Derived.Test.YtpojlnpbadcnaaaGreatDoorL4
import Derived.Test.YtpojlnpbadcnaaaGreatDoorV6
namespace Go.Proofs.YtpojlnpbadcnaaaGreatDoor
open Go.RowKit
set_option maxRecDepth 100000

theorem Ints.mono {n₀ n₁ : Nat} {W : World} {sv : Value} {zs : List Int} (hn : n₀ ≤ n₁) : Ints n₀ W sv zs → Ints n₁ W sv zs
  | .inl e => .inl e
  | .inr ⟨b, off, cap, e, hb, hc⟩ => .inr ⟨b, off, cap, e, by omega, hc⟩
theorem Ints.bl {A B : World} {sv : Value} {zs : List Int} (h : Ints A.heap.size A sv zs) (hb : Bl A B) : Ints B.heap.size B sv zs := (h.below hb).mono hb.size

def orX (zs : List Int) : Int := zs.foldl or2 0
theorem not2_not2 {a : Int} (h : a = 0 ∨ a = 1 ∨ a = 2) : not2 (not2 a) = a := by rcases h with rfl | rfl | rfl <;> decide
theorem or2_step (a b : Int) (h : a = 0 ∨ a = 1 ∨ a = 2) : or2 (not2 a) b = not2 (and2 a (not2 b)) := by
  unfold or2; rw [not2_not2 h]
theorem orX_is (zs : List Int) : orX zs = orL zs := by
  have : ∀ (zs : List Int) (a : Int), (a = 0 ∨ a = 1 ∨ a = 2) → zs.foldl or2 (not2 a) = not2 (zs.foldl (fun a b => and2 a (not2 b)) a) := by
    intro zs
    induction zs with
    | nil => intro a _; rfl
    | cons b r ih => intro a h; simp only [List.foldl_cons]; rw [or2_step a b h]; exact ih _ (and2_range _ _)
  exact this zs 1 (by simp)
theorem and_next {zs : List Int} {k : Nat} (h : k < zs.length) : andL (zs.take (k + 1)) = and2 (andL (zs.take k)) zs[k] := by
  unfold andL; rw [List.take_add_one, List.getElem?_eq_getElem h, List.foldl_append]; rfl
theorem or_next {zs : List Int} {k : Nat} (h : k < zs.length) : orX (zs.take (k + 1)) = or2 (orX (zs.take k)) zs[k] := by
  unfold orX; rw [List.take_add_one, List.getElem?_eq_getElem h, List.foldl_append]; rfl


theorem and_int (zs : List Int) : -9223372036854775808 ≤ andL zs ∧ andL zs ≤ 9223372036854775807 := by
  have : ∀ (zs : List Int) (a : Int), (a = 0 ∨ a = 1 ∨ a = 2) → (zs.foldl and2 a = 0 ∨ zs.foldl and2 a = 1 ∨ zs.foldl and2 a = 2) := by
    intro zs
    induction zs with
    | nil => intro a h; exact h
    | cons b r ih => intro a _; exact ih _ (and2_range _ _)
  have := this zs 1 (by simp)
  unfold andL; omega
/-- The last statement of the law, behind the loop. -/
theorem keep4 {w A B : World} {p0 p1 p2 : Addr} {v0 v1 v2 : Value} (h : A.cell? p0 = some v0 ∧ A.cell? p1 = some v1 ∧ A.cell? p2 = some v2 ∧ Bl w A) (hb : Bl A B) :
    B.cell? p0 = some v0 ∧ B.cell? p1 = some v1 ∧ B.cell? p2 = some v2 ∧ Bl w B :=
  ⟨hb.cell h.1, hb.cell h.2.1, hb.cell h.2.2.1, h.2.2.2.call hb⟩

set_option maxHeartbeats 4000000 in
theorem truths_any (a : Option Addr) (len cap : Nat) (zs : List Int) (hz : len = zs.length) (h12 : zs.length ≤ 12) (t k n : Int) (l : List UInt8) (hl : l.length ≤ 1100) (ht0 : -9223372036854775808 ≤ t) (ht1 : t ≤ 9223372036854775807)
    (hn0 : -9223372036854775808 ≤ n) (hn1 : n ≤ 9223372036854775807) (hk0 : -9223372036854775808 ≤ k) (hk1 : k ≤ 9223372036854775807) (w : World) (hG : Glob w) (hI : Ints w.heap.size w (.slice a len cap) zs) :
    Calls Tryz.prog 8 #[.slice a len cap, .int .i64 t, V k n l] w (Yes w) := by
  have hB0 := (Bl.refl w).alloc (.cells #[.int .i64 k, .int .i64 n, .string ⟨l.toArray⟩] 24)
  have k0 := heap_new w (.cells #[.int .i64 k, .int .i64 n, .string ⟨l.toArray⟩] 24)
  have hI0 := hI.bl hB0
  subst hz
  go_enter Tryz.func8, Tryz.ntmps8
  go_wp2_with fail
  generalize w.alloc (.cells #[.int .i64 k, .int .i64 n, .string ⟨l.toArray⟩] 24) = W at *
  go_loopw [7, 8, 9] (fun x y i wr => ∃ m : Nat, m ≤ zs.length ∧ i = .int .i64 (m : Int) ∧ x = .int .i64 (andL (zs.take m)) ∧ y = .int .i64 (orX (zs.take m)) ∧ Bl W wr) (fun _ _ i _ => zs.length - (intOf i).toNat)
  case atStart => exact ⟨0, by omega, rfl, rfl, rfl, Bl.refl _⟩
  case round =>
    obtain ⟨m, hm, rfl, rfl, rfl, hbr⟩ := hrel
    by_cases hlt : m < zs.length
    · have hIr := hI0.bl hbr
      rcases hIr with ⟨_, hz⟩ | ⟨b, off, cap', he, hb, hcs⟩
      · subst hz; simp at hlt
      · injection he with he1 he2 he3
        subst he1 he3
        have hc := hcs m hlt
        rw [List.getElem?_eq_getElem hlt, Option.getD_some] at hc
        have HA := Lib.hid (and_next hlt)
        have HO := Lib.hid (or_next hlt)
        obtain ⟨x, HX⟩ : ∃ x, Hid (andL (zs.take m) = x) := ⟨_, rfl⟩
        obtain ⟨y, HY⟩ : ∃ y, Hid (orX (zs.take m) = y) := ⟨_, rfl⟩
        obtain ⟨z, HZ⟩ : ∃ z, Hid (zs[m] = z) := ⟨zs[m], Lib.hid rfl⟩
        rw [HZ.out] at hc
        rw [HX.out, HY.out]
        have HS := Lib.hid (And.intro (show wr.drew.cell? ⟨b, off + m, none⟩ = _ from hc) (hbr.drew))
        clear hcs hI0 hI hc
        go_wp2_with fail
        go_region_held3 (fun w' => w'.cell? ⟨b, off + m, none⟩ = some (.int .i64 z) ∧ Bl W w') (first | exact HS.out | assumption)
          (first
            | (go_at_call 26; (with_reducible refine (rAnd_any x z _).mono ?_); rintro e w' ⟨rfl, rfl⟩)
            | (go_at_call 27; (with_reducible refine (rOr_any y z _).mono ?_); rintro e w' ⟨rfl, rfl⟩))
        go_wp2
        go_roundw
        case rel =>
          refine ⟨m + 1, by omega, by go_num, ?_, ?_, hbr.drew⟩
          · rw [HA.out, HX.out, HZ.out]
          · rw [HO.out, HY.out, HZ.out]
        case measure => simp [intOf]; omega
    · obtain rfl : m = zs.length := by omega
      rw [List.take_length, orX_is]
      have k1 := (hbr.block _ (heap_lt k0)).trans k0
      have hB1 := hB0.call hbr
      have hI1 := hI0.bl hbr
      obtain ⟨a0, a1, a2⟩ := cells3 k1
      go_wp2_with fail
      (with_reducible refine (Known_any k n l hn0 hn1 _).mono ?_)
      rintro e w2 ⟨rfl, hb2⟩
      have k2 := (hb2.block _ (heap_lt k1)).trans k1
      have hB2 := hB1.call hb2
      have hI2 := hI1.bl hb2
      clear a0 a1 a2
      obtain ⟨a0, a1, a2⟩ := cells3 k2
      go_wp2_with fail
      (with_reducible refine (rKnown_any k n l hn0 hn1 hk0 hk1 _).mono ?_)
      rintro e w3 ⟨rfl, hb3⟩
      have hB3 := hB2.call hb3
      have hI3 := hI2.bl hb3
      clear a0 a1 a2 k0 k1 k2 hb2 hb3 hI hI0 hI1 hI2 hB0 hB1 hB2 hbr
      generalize knownR k n l = kr at *
      go_wp2_with fail
      (with_reducible refine (And_any a zs.length cap zs (by omega) _ hI3).mono ?_)
      rintro e w4 ⟨rfl, hb4⟩
      have hI4 := hI3.bl hb4
      have hB4 := hB3.call hb4
      go_wp2_with fail
      (with_reducible refine (Or_any a zs.length cap zs (by omega) _ hI4).mono ?_)
      rintro e w5 ⟨rfl, hb5⟩
      have hB5 := hB4.call hb5
      clear hI3 hI4 hb4 hb5 hB3 hB4
      go_wp2_with (first | (go_at_call 16; (with_reducible refine (Not_any t _).mono ?_); rintro e w' ⟨rfl, rfl⟩) | (go_at_call 30; (with_reducible refine (rNot_any t _).mono ?_); rintro e w' ⟨rfl, rfl⟩) | fail)
      (with_reducible refine (Of_any t ht0 ht1 _).mono ?_)
      rintro e w6 ⟨rfl, hb6⟩
      have hB6 := hB5.call hb6
      go_wp2_with fail
      (with_reducible refine (rOf_any t ht0 ht1 _).mono ?_)
      rintro e w7 ⟨rfl, hb7⟩
      have hB7 := hB6.call hb7
      have hG7 := hG.bl hB7
      go_wp2_with (first | (go_at_call 9; (with_reducible refine (works_any _ hG7).mono ?_); rintro e w' ⟨rfl, hb⟩))
      go_ret
      exact ⟨rfl, hB7.call hb⟩

set_option maxHeartbeats 2000000 in
theorem truths_long (a : Option Addr) (len cap : Nat) (t k n : Int) (l : List UInt8) (hz : len ≤ maxLen) (hm : l.length ≤ maxLen) (h : ¬ (len ≤ 12 ∧ l.length ≤ 1100)) (w : World) (hG : Glob w) :
    Calls Tryz.prog 8 #[.slice a len cap, .int .i64 t, V k n l] w (Yes w) := by
  have hB1 := (Bl.refl w).alloc (.cells #[.int .i64 k, .int .i64 n, .string ⟨l.toArray⟩] 24)
  have hG1 := hG.bl hB1
  unfold maxLen at hm hz
  by_cases h1 : 12 < len
  · clear h
    go_enter Tryz.func8, Tryz.ntmps8
    go_wp2_with (first | (go_at_call 9; (with_reducible refine (works_any _ hG1).mono ?_); rintro e w' ⟨rfl, hb⟩))
    go_ret
    exact ⟨rfl, hB1.call hb⟩
  · have h2 : 1100 < l.length := by omega
    clear h
    go_enter Tryz.func8, Tryz.ntmps8
    go_wp2_with (first | (go_at_call 9; (with_reducible refine (works_any _ hG1).mono ?_); rintro e w' ⟨rfl, hb⟩))
    go_ret
    exact ⟨rfl, hB1.call hb⟩

theorem truths_all (a : Option Addr) (len cap : Nat) (zs : List Int) (hz : len = zs.length) (hlm : len ≤ maxLen) (t k n : Int) (l : List UInt8) (hm : l.length ≤ maxLen) (ht : -9223372036854775808 ≤ t ∧ t ≤ 9223372036854775807)
    (hn : -9223372036854775808 ≤ n ∧ n ≤ 9223372036854775807) (hk : -9223372036854775808 ≤ k ∧ k ≤ 9223372036854775807) (w : World) (hG : Glob w) (hI : Ints w.heap.size w (.slice a len cap) zs) :
    Calls Tryz.prog 8 #[.slice a len cap, .int .i64 t, V k n l] w (Yes w) := by
  by_cases h : len ≤ 12 ∧ l.length ≤ 1100
  · exact truths_any a len cap zs hz (by omega) t k n l h.2 ht.1 ht.2 hn.1 hn.2 hk.1 hk.2 w hG hI
  · exact truths_long a len cap t k n l hlm hm h w hG

end Go.Proofs.YtpojlnpbadcnaaaGreatDoor
