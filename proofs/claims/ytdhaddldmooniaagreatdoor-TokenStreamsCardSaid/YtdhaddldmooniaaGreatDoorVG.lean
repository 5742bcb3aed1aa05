/- What the package-level variables hold, kept over calls; the closures that tell literals. -/
import Derived.Test.YtdhaddldmooniaaGreatDoorV9
import Derived.Test.YtdhaddldmooniaaGreatDoorVB
import Derived.Test.YtdhaddldmooniaaGreatDoorMP
import Derived.ShutString
import Derived.Laws.IdiomStrings
import Derived.Sort.Grow
import Derived.Lib.QuietBelow
namespace Go.Proofs.YtdhaddldmooniaaGreatDoor
open Go.RowKit
open Go.Sort (grow)
set_option maxRecDepth 100000

theorem gPow : Tryz.prog.globalNamed "internal/strconv.uint64pow10" = some 3 := by kernel_rfl
theorem gSyn : Tryz.prog.globalNamed "strconv.ErrSyntax" = some 1 := by kernel_rfl
theorem gRng : Tryz.prog.globalNamed "strconv.ErrRange" = some 2 := by kernel_rfl

structure Glob (w : World) : Prop where
  pow : Lib.TabIs Tryz.prog w "internal/strconv.uint64pow10" .u64 Lib.pow10Tab
  most : ∃ m, w.cell? ⟨0, 0, none⟩ = some (.int .i64 m)
  syn : ∃ tp p, w.var? Tryz.prog "strconv.ErrSyntax" = some #[.iface tp p]
  rng : ∃ tp p, w.var? Tryz.prog "strconv.ErrRange" = some #[.iface tp p]

theorem var_lt {w : World} {n : String} {g : Nat} {cs : Array Value} (hg : Tryz.prog.globalNamed n = some g) (h : w.var? Tryz.prog n = some cs) : g < w.heap.size := by
  unfold World.var? at h
  simp only [hg, Option.bind_some] at h
  rcases Nat.lt_or_ge g w.heap.size with h' | h'
  · exact h'
  · simp [Array.getElem?_eq_none h'] at h

theorem Glob.bl {w w' : World} (h : Glob w) (hb : Bl w w') : Glob w' where
  pow := var?_below hb gPow (var_lt gPow h.pow) h.pow
  most := let ⟨m, hm⟩ := h.most; ⟨m, Bl.cell hb hm⟩
  syn := let ⟨t, p, hm⟩ := h.syn; ⟨t, p, var?_below hb gSyn (var_lt gSyn hm) hm⟩
  rng := let ⟨t, p, hm⟩ := h.rng; ⟨t, p, var?_below hb gRng (var_lt gRng hm) hm⟩
theorem Glob.alloc {w : World} (h : Glob w) (o : Obj) : Glob (w.alloc o) := h.bl ((Bl.refl w).alloc o)

def litNull : List UInt8 := [110, 117, 108, 108]
def litText (l : List UInt8) : List UInt8 := [39] ++ dbl l ++ [39]
def hexDigit (n : Nat) : UInt8 := ([48, 49, 50, 51, 52, 53, 54, 55, 56, 57, 97, 98, 99, 100, 101, 102] : List UInt8).getD n 0
def hexOf (l : List UInt8) : List UInt8 := l.flatMap fun c => [hexDigit (c.toNat / 16), hexDigit (c.toNat % 16)]
def litBlob (l : List UInt8) : List UInt8 := [120] ++ ([39] ++ hexOf l ++ [39])
/-- A value's literal. -/
def lit (k n : Int) (l : List UInt8) : List UInt8 := if k = 0 then litNull else if k = 1 then Lib.formatBool (n == 1) else if k = 2 then Lib.itoa n else if k = 3 then litText l else litBlob l

theorem ret_S {a b : List UInt8} (h : a = b) : Ending.returned (S a) = .returned (S b) := by rw [h]

set_option maxHeartbeats 400000 in
theorem vquoted_any (l : List UInt8) (hl : l.length ≤ 1000000) (w : World) : Calls Tryz.prog 95 #[S l] w fun e w' => e = .returned (S ([39] ++ l ++ [39])) ∧ w' = w := by
  go_enter Tryz.func95, Tryz.ntmps95
  go_wp2

  go_ret
  exact ⟨ret_S (by simp), rfl⟩

set_option maxHeartbeats 400000 in
theorem laid1_any (k n : Int) (l : List UInt8) (w : World) : Calls Tryz.prog 90 #[V k n l] w fun e w' => e = .returned (S litNull) ∧ Bl w w' := by
  go_enter Tryz.func90, Tryz.ntmps90
  go_wp2
  go_ret
  exact ⟨rfl, (Bl.refl _).alloc _⟩

set_option maxHeartbeats 400000 in
theorem laid2_any (k n : Int) (l : List UInt8) (w : World) : Calls Tryz.prog 91 #[V k n l] w fun e w' => e = .returned (S (Lib.formatBool (n == 1))) ∧ Bl w w' := by
  go_enter Tryz.func91, Tryz.ntmps91
  go_wp2_with fail
  refine (Tryz.strconv_FormatBool _ _).mono ?_
  rintro e w' ⟨rfl, rfl⟩
  go_wp2
  go_ret
  exact ⟨rfl, (Bl.refl _).alloc _⟩

theorem Bl.regrown (w : World) (k : Nat) (os : Array Obj) : Bl w (grow (w.drewN k) os) :=
  ⟨rfl, rfl, rfl, by simp [grow, World.drewN], fun i hi => by simp [grow, World.drewN, Array.getElem?_append, hi]⟩

set_option maxHeartbeats 400000 in
theorem laid3_any (k n : Int) (l : List UInt8) (h0 : -9223372036854775808 ≤ n) (h1 : n ≤ 9223372036854775807) (w : World) (hG : Glob w) : Calls Tryz.prog 93 #[V k n l] w fun e w' => e = .returned (S (Lib.itoa n)) ∧ Bl w w' := by
  go_enter Tryz.func93, Tryz.ntmps93
  go_wp2_with fail
  refine (Tryz.strconv_FormatInt_10 n h0 h1 _ (hG.alloc _).pow).mono ?_
  rintro e w' ⟨rfl, j, os, rfl⟩
  go_wp2
  go_ret
  exact ⟨rfl, ((Bl.refl _).alloc _).call (Bl.regrown _ _ _)⟩

set_option maxHeartbeats 400000 in
theorem laid4_any (k n : Int) (l : List UInt8) (hl : l.length ≤ 1000) (w : World) (hG : Glob w) : Calls Tryz.prog 94 #[V k n l] w fun e w' => e = .returned (S (litText l)) ∧ Bl w w' := by
  obtain ⟨m, hm⟩ := (hG.alloc (.cells #[.int .i64 k, .int .i64 n, S l] 32)).most
  have HM := Lib.hid hm
  clear hm
  have hsz : (⟨l.toArray⟩ : ByteArray).size = l.length := size_of_list l
  have hct := Lib.countB_le (⟨#[39]⟩ : ByteArray) (by decide) l.length (⟨l.toArray⟩ : ByteArray) (by omega)
  have HS := Lib.hid hsz
  clear hsz
  go_enter Tryz.func94, Tryz.ntmps94
  go_wp2_with fail
  refine (Tryz.strings_ReplaceAll ⟨l.toArray⟩ ⟨#[39]⟩ ⟨#[39, 39]⟩ m _ (by rw [HS.out]; omega) HM.out (by decide) (by have e : (⟨#[39, 39]⟩ : ByteArray).size = 2 := rfl; rw [HS.out, e]; have := HS.out; omega)).mono ?_
  rintro e w' ⟨rfl, hb⟩
  rw [show Lib.replaceAll (⟨l.toArray⟩ : ByteArray).data.toList (⟨#[39]⟩ : ByteArray).data.toList (⟨#[39, 39]⟩ : ByteArray).data.toList = dbl l from replaceAll_dbl l]
  go_wp2_with fail
  refine (vquoted_any _ (by have := dbl_length l; omega) _).mono ?_
  rintro e w1 ⟨rfl, rfl⟩
  go_wp2
  go_ret
  exact ⟨rfl, ((Bl.refl _).alloc _).call hb⟩

theorem hexOf_length (l : List UInt8) : (hexOf l).length = 2 * l.length := by
  unfold hexOf; induction l with
  | nil => rfl
  | cons c r ih => simp [ih]; omega
theorem hexOf_snoc (l : List UInt8) (c : UInt8) : hexOf (l ++ [c]) = hexOf l ++ [hexDigit (c.toNat / 16), hexDigit (c.toNat % 16)] := by simp [hexOf]
theorem digit_at (n : Nat) (h : n < (⟨#[48, 49, 50, 51, 52, 53, 54, 55, 56, 57, 97, 98, 99, 100, 101, 102]⟩ : ByteArray).size) : (⟨#[48, 49, 50, 51, 52, 53, 54, 55, 56, 57, 97, 98, 99, 100, 101, 102]⟩ : ByteArray)[n] = hexDigit n := by
  have h' : n < 16 := h
  have : ∀ m : Fin 16, (⟨#[48, 49, 50, 51, 52, 53, 54, 55, 56, 57, 97, 98, 99, 100, 101, 102]⟩ : ByteArray)[m.val]'m.isLt = hexDigit m.val := by decide
  exact this ⟨n, h'⟩
theorem bytes_of (l : List UInt8) (w : World) : ∃ (C : Array Value) (fz : Nat × Nat) (cap : Nat), (∀ j, j < l.length → C[j]? = some (.int .u8 (l[j]?.getD 0).toNat)) ∧
    (convert 9 98 (S l)).run Tryz.prog w = .ok (.slice (some ⟨w.heap.size, 0, none⟩) l.length cap) ((w.alloc (.cells C 5 fz)).drew) := by
  refine ⟨bytesRow ⟨l.toArray⟩ (grownCap w (⟨l.toArray⟩ : ByteArray).size 0 5), ((bytesRow ⟨l.toArray⟩ (grownCap w (⟨l.toArray⟩ : ByteArray).size 0 5)).size, (bytesRow ⟨l.toArray⟩ (grownCap w (⟨l.toArray⟩ : ByteArray).size 0 5)).size + 1), grownCap w (⟨l.toArray⟩ : ByteArray).size 0 5, ?_, ?_⟩
  rotate_left
  · rw [run_bytes_of_string w 9 98 5 ⟨l.toArray⟩ Tryz.underlying9 Tryz.underlying98 Tryz.underlying5, size_of_list]
    rfl
  · intro j hj
    unfold bytesRow
    rw [Array.getElem?_append_left (by simpa using hj)]
    simp [hj]

set_option maxHeartbeats 1000000 in
theorem laid5_any (k n : Int) (l : List UInt8) (hl : l.length ≤ 1000) (w : World) : Calls Tryz.prog 97 #[V k n l] w fun e w' => e = .returned (S (litBlob l)) ∧ Bl w w' := by
  obtain ⟨C, fz, cap, hC, hcv⟩ := bytes_of l ((w.alloc (.cells #[.int .i64 k, .int .i64 n, S l] 32)).alloc (.cells #[.pointer none, .slice none 0 0] 139))
  simp only [World.size_alloc] at hcv
  have HC := Lib.hid hC
  clear hC
  go_enter Tryz.func97, Tryz.ntmps97
  go_wp2
  go_loopw [10] (fun i wr => ∃ j : Nat, j ≤ l.length ∧ i = .int .i64 j ∧ KB (w.heap.size + 1) (w.heap.size + 1) (w.heap.size + 1 + 1) (.cells C 5 fz) (Lib.byteCells (hexOf (l.take j))) wr ∧ Bl w wr) (fun i _ => l.length - (intOf i).toNat)
  case atStart =>
    refine ⟨0, Nat.zero_le _, rfl, KB.start (Nat.le_refl _) (by omega) ?_ ?_, ((((Bl.refl w).alloc _).alloc _).alloc _).drew⟩
    · show (World.alloc (World.alloc (World.alloc w _) _) _).heap[w.heap.size + 1]? = _
      rw [heap_old _ _ (by simp), heap_new' _ _ (by simp)]
    · show (World.alloc (World.alloc (World.alloc w _) _) _).heap[w.heap.size + 1 + 1]? = _
      rw [heap_new' _ _ (by simp)]
  case round =>
    obtain ⟨j, hj, rfl, hK, hB⟩ := hrel
    by_cases hlt : j < l.length
    · obtain ⟨c, hc, hcell⟩ : ∃ c : UInt8, l[j]? = some c ∧ wr.cell? ⟨w.heap.size + 1 + 1, j, none⟩ = some (.int .u8 c.toNat) :=
        ⟨l[j], by simp [hlt], by rw [Lib.cell_of_heap hK.other]; have := HC.out j hlt; simpa [hlt] using this⟩
      have X := Lib.hid hc
      clear hc
      have hc256 : c.toNat < 256 := c.toNat_lt
      have q1 : 0 ≤ (c.toNat : Int) / 16 ∧ (c.toNat : Int) / 16 < 16 := by omega
      have q2 : 0 ≤ ((c.toNat % 16 : Nat) : Int) ∧ ((c.toNat % 16 : Nat) : Int) < 16 := by omega
      have q3 := and_15_u8 c.toNat hc256
      have hlen := hexOf_length (l.take j)
      have hlt2 : (l.take j).length ≤ 1000 := by simp; omega
      go_wp2_with fail
      refine (WriteByte_kb _ _ _ _ _ _ _ hK (by simp [Lib.byteCells]; omega) (by have := hB.size; have := hK.lt; omega)).mono ?_
      rintro e w1 ⟨rfl, hK1, hB1⟩
      go_wp2_with fail
      refine (WriteByte_kb _ _ _ _ _ _ _ hK1 (by simp [Lib.byteCells]; omega) (by have := hK1.lt; omega)).mono ?_
      rintro e w2 ⟨rfl, hK2, hB2⟩
      go_wp2
      go_roundw
      case rel =>
        refine ⟨j + 1, by omega, by go_num, ?_, (hB.trans (hB1.mono (by omega))).trans (hB2.mono (by omega))⟩
        have e : l.take (j + 1) = l.take j ++ [c] := by rw [List.take_add_one, X.out]; rfl
        rw [e, hexOf_snoc, Lib.byteCells_append]
        simp only [List.append_assoc] at hK2
        rw [digit_at, digit_at] at hK2
        exact hK2
      case measure => simp [intOf]; omega
    · obtain rfl : j = l.length := by omega
      go_wp2_with fail
      refine (Tryz.Builder_String_any _ _ _ _ hK.is (by have := hK.lt; omega)).mono ?_
      rintro e w1 ⟨rfl, hB1⟩
      have hlen := hexOf_length l
      rw [List.take_length]
      go_wp2_with fail
      refine (vquoted_any _ (by omega) _).mono ?_
      rintro e w2 ⟨rfl, rfl⟩
      go_wp2
      go_ret
      refine ⟨ret_S ?_, hB.trans (hB1.mono (by omega))⟩
      simp [litBlob]

end Go.Proofs.YtdhaddldmooniaaGreatDoor
