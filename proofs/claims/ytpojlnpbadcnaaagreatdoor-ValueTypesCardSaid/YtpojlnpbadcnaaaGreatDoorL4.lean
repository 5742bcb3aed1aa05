/- ValueReads: the walk. -/
import Derived.Test.YtpojlnpbadcnaaaGreatDoorPL
import Derived.Test.YtpojlnpbadcnaaaGreatDoorW1
namespace Go.Proofs.YtpojlnpbadcnaaaGreatDoor
open Go.RowKit
set_option maxRecDepth 100000

/-- True, and what was there stands. -/
def Yes (w : World) (e : Ending) (w' : World) : Prop := e = .returned (.bool true) ∧ Bl w w'

theorem parseV_ok {s : List UInt8} (h : (parseV s).2.2.2 = 0) : chk (parseV s).1 (parseV s).2.1 (parseV s).2.2.1 = 0 ∧ lit (parseV s).1 (parseV s).2.1 (parseV s).2.2.1 = s := by
  unfold parseV at h ⊢
  cases hr : readV s with
  | none => rw [hr] at h; simp at h
  | some x =>
    obtain ⟨k, n, l⟩ := x
    rw [hr] at h
    simp only at h ⊢
    split
    · rename_i hc; exact ⟨hc, lit_read hr⟩
    · rename_i hc; rw [if_neg hc] at h; exact absurd h hc
theorem readV_int {s : List UInt8} {k n : Int} {l : List UInt8} (h : readV s = some (k, n, l)) : I64 n := by
  unfold readV at h
  split at h
  · rename_i k' n' hn
    injection h with h
    injection h with h1 h2
    injection h2 with h2 h3
    subst h2
    unfold isName at hn
    split at hn
    · injection hn with hn; injection hn with h1 h2; subst h2; exact ⟨by omega, by omega⟩
    · split at hn
      · injection hn with hn; injection hn with h1 h2; subst h2; exact ⟨by omega, by omega⟩
      · split at hn
        · injection hn with hn; injection hn with h1 h2; subst h2; exact ⟨by omega, by omega⟩
        · cases hn
  · split at h
    · rename_i n' hn
      injection h with h
      injection h with h1 h2
      injection h2 with h2 h3
      subst h2
      unfold readNum at hn
      split at hn
      · rename_i m hm
        split at hn
        · injection hn with hn; subst hn; exact int64_of_parse hm
        · cases hn
      · cases hn
    · cases hr : readRest s with
      | none => rw [hr] at h; cases h
      | some x =>
        obtain ⟨k', l'⟩ := x
        rw [hr] at h
        simp at h
        obtain ⟨rfl, rfl, rfl⟩ := h
        exact ⟨by omega, by omega⟩
theorem parseV_int {s : List UInt8} : I64 (parseV s).2.1 ∧ I64 (parseV s).2.2.2 := by
  unfold parseV
  cases hr : readV s with
  | none => exact ⟨⟨by simp, by simp⟩, ⟨by simp, by simp⟩⟩
  | some x =>
    obtain ⟨k, n, l⟩ := x
    have hn : I64 n := readV_int hr
    have hc : I64 (chk k n l) := by unfold chk I64; split <;> (try split) <;> omega
    simp only
    split
    · exact ⟨hn, ⟨by simp, by simp⟩⟩
    · exact ⟨⟨by simp, by simp⟩, hc⟩

theorem heap_lt {W : World} {b : Nat} {o : Obj} (h : W.heap[b]? = some o) : b < W.heap.size := (Array.getElem?_eq_some_iff.1 h).1
theorem cells3 {W : World} {b : Nat} {x y z : Value} {t : TypeId} {fz : Nat × Nat} (h : W.heap[b]? = some (.cells #[x, y, z] t fz)) : W.cell? ⟨b, 0, none⟩ = some x ∧ W.cell? ⟨b, 1, none⟩ = some y ∧ W.cell? ⟨b, 2, none⟩ = some z :=
  ⟨by rw [Lib.cell_of_heap h]; rfl, by rw [Lib.cell_of_heap h]; rfl, by rw [Lib.cell_of_heap h]; rfl⟩

set_option maxHeartbeats 2000000 in
theorem reads_long (s : List UInt8) (h : 2200 < s.length) (hm : s.length < 9223372036854775808) (w : World) (hG : Glob w) : Calls Tryz.prog 4 #[S s] w (Yes w) := by
  go_enter Tryz.func4, Tryz.ntmps4
  go_wp2_with fail
  (with_reducible refine (works_any _ hG).mono ?_)
  rintro e w1 ⟨rfl, hb⟩
  go_wp2_with fail
  go_ret
  exact ⟨rfl, hb⟩

set_option maxHeartbeats 2000000 in
theorem reads_any (s : List UInt8) (hs : s.length ≤ 2200) (w : World) (hG : Glob w) : Calls Tryz.prog 4 #[S s] w (Yes w) := by
  go_enter Tryz.func4, Tryz.ntmps4
  go_wp2_with fail
  (with_reducible refine (Parse_any s (by omega) _ hG).mono ?_)
  rintro e w1 ⟨rfl, hb1⟩
  have HP := Lib.hid (@parseV_ok s)
  have HI := Lib.hid (@parseV_int s)
  have hr := rParse_any s (by omega)
  unfold RParsePost parseEnd at hr
  have HR := Lib.hid hr
  clear hr
  generalize parseV s = x at *
  obtain ⟨k, n, l, ec⟩ := x
  simp only at HP HI HR ⊢
  go_wp2_with fail
  (with_reducible refine (HR.out _).mono ?_)
  rintro e w2 ⟨rfl, hb2⟩
  have hB2 := ((hb1.alloc _).call hb2).alloc (.cells #[.int .i64 k, .int .i64 n, .string ⟨l.toArray⟩] 24)
  have k2 : w2.heap[w1.heap.size]? = _ := (hb2.block _ (by simp)).trans (heap_new _ _)
  have k3 := (heap_old w2 (.cells #[.int .i64 k, .int .i64 n, .string ⟨l.toArray⟩] 24) (heap_lt k2)).trans k2
  have m3 := heap_new w2 (.cells #[.int .i64 k, .int .i64 n, .string ⟨l.toArray⟩] 24)
  obtain ⟨a0, a1, a2⟩ := cells3 k3
  obtain ⟨e0, e1, e2⟩ := cells3 m3
  clear hb1 hb2 k2 HR
  by_cases hz : ec = 0
  · subst hz
    obtain ⟨hc, hl⟩ := HP.out rfl
    have HC := Lib.hid hc
    have HL := Lib.hid hl
    have HI := Lib.hid HI.out.1
    clear hc hl HP
    go_wp2_with (first | (go_at_call 12; (with_reducible refine (num_any 0 (by omega) (by omega) _).mono ?_); rintro e w' ⟨rfl, rfl⟩) | fail)
    have hI := HI.out
    have hI0 := hI.1
    have hI1 := hI.2
    (with_reducible refine (Literal_ok k n l HC.out hI0 hI1 _ (hG.bl hB2)).mono ?_)
    rintro e w3 ⟨rfl, hb3⟩
    have hl := HL.out
    subst hl
    have hG3 := (hG.bl hB2).bl hb3
    clear a0 a1 a2 e0 e1 e2 k3 m3
    go_wp2_with (first | (go_at_call 12; (with_reducible refine (num_any 0 (by omega) (by omega) _).mono ?_); rintro e w' ⟨rfl, rfl⟩) | (go_at_call 9; (with_reducible refine (works_any _ hG3).mono ?_); rintro e w' ⟨rfl, hb⟩))
    go_ret
    exact ⟨rfl, (hB2.call hb3).call hb⟩
  · have hb : (ec != 0) = true := by simpa using hz
    have hI := HI.out.2
    have hI0 := hI.1
    have hI1 := hI.2
    have hG3 := hG.bl hB2
    clear hz HP hI HI
    go_wp2_with (first | (go_at_call 12; (with_reducible refine (num_any ec hI0 hI1 _).mono ?_); rintro e w' ⟨rfl, rfl⟩) | (go_at_call 9; (with_reducible refine (works_any _ hG3).mono ?_); rintro e w' ⟨rfl, hbz⟩))
    go_ret
    exact ⟨rfl, hB2.call hbz⟩

end Go.Proofs.YtpojlnpbadcnaaaGreatDoor
