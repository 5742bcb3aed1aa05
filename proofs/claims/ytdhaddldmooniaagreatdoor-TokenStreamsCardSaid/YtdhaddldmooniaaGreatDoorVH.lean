/- value.bytes. -/
import Derived.Test.YtdhaddldmooniaaGreatDoorVQ
import Derived.Test.YtdhaddldmooniaaGreatDoorMP
import Derived.Deep.RegionHeld3
import Derived.Deep.AppendLies
namespace Go.Proofs.YtdhaddldmooniaaGreatDoor
open Go.RowKit
set_option maxRecDepth 100000

theorem Trim_L (l : List UInt8) (hl : l.length ≤ 1000000) (w : World) : Calls Tryz.prog 104 #[S l, S digitsL] w fun e w' => e = .returned (S (Lib.trimS l digitsL)) ∧ Bl w w' :=
  (Tryz.strings_Trim_laid ⟨l.toArray⟩ ⟨digitsL.toArray⟩ w (by rw [size_of_list]; omega) (by decide) (by
    intro j b hb
    have : b ∈ digitsL := List.mem_of_getElem? (show digitsL[j]? = some b from hb)
    simp only [digitsL, List.mem_cons, List.mem_nil_iff, or_false] at this
    rcases this with rfl | rfl | rfl | rfl | rfl | rfl | rfl | rfl | rfl | rfl | rfl | rfl | rfl | rfl | rfl | rfl <;> decide)).mono fun _ _ ⟨he, hw⟩ => ⟨he, hw⟩
theorem IndexByte_L (l : List UInt8) (c : UInt8) (w : World) : Calls Tryz.prog 105 #[S l, .int .u8 c.toNat] w fun e w' => e = .returned (.int .i64 (Lib.indexByte l c)) ∧ w' = w :=
  (Tryz.strings_IndexByte ⟨l.toArray⟩ c.toNat w).mono fun _ _ ⟨he, hw⟩ => ⟨by rw [he]; simp, hw⟩

set_option maxHeartbeats 400000 in
theorem bytes_no (l : List UInt8) (hl : l.length ≤ 1000000) (w : World) (h : ¬ (l.length % 2 = 0 ∧ ∀ c ∈ l, isHex c = true)) :
    Calls Tryz.prog 81 #[S l] w fun e w' => e = .panicked [{ v := .iface 25 (.int .i64 110), recovered := false }] ∧ Bl w w' := by
  by_cases he : l.length % 2 = 0
  · have hb : ((l.length : Int) % 2 == 0) = true := by simp; omega
    have ht : ¬ Lib.trimS l digitsL = [] := fun e => h ⟨he, fun c hc => (trimS_nil_iff l digitsL).1 e c hc⟩
    have HE := Lib.hid he
    clear h he
    go_enter Tryz.func81, Tryz.ntmps81
    go_wp2_with fail
    refine (Trim_L l hl _).mono ?_
    rintro e w1 ⟨rfl, hb1⟩
    generalize Lib.trimS l digitsL = t at *
    have ht' : t.isEmpty = false := by simpa using ht
    go_wp2_with (first | (go_at_call 83; (with_reducible refine (must_no _ _).mono ?_); rintro e w' ⟨rfl, rfl⟩))
    exact ⟨rfl, rfl, hb1⟩
  · have hb : ((l.length : Int) % 2 == 0) = false := by simp; omega
    have HE := Lib.hid he
    clear h he
    go_enter Tryz.func81, Tryz.ntmps81
    go_wp2_with (first | (go_at_call 83; (with_reducible refine (must_no _ _).mono ?_); rintro e w' ⟨rfl, rfl⟩))
    exact ⟨rfl, rfl, Bl.refl _⟩

theorem infoByte : (Tryz.prog.info? 5).map (fun i => (i.zero, i.size, i.bytes)) = some (some (.int .u8 0), 1, 1) := by kernel_rfl

set_option maxHeartbeats 1000000 in
theorem bytes_ok (l : List UInt8) (hl : l.length ≤ 1000000) (w : World) (he : l.length % 2 = 0) (hall : ∀ c ∈ l, isHex c = true) :
    Calls Tryz.prog 81 #[S l] w fun e w' => e = .returned (S (unhex l)) ∧ Bl w w' := by
  have hb : ((l.length : Int) % 2 == 0) = true := by simp; omega
  have ht : Lib.trimS l digitsL = [] := (trimS_nil_iff l digitsL).2 fun c hc => hall c hc
  have HT := Lib.hid ht
  have HE := Lib.hid he
  have HA := Lib.hid hall
  clear ht he hall
  go_enter Tryz.func81, Tryz.ntmps81
  go_wp2_with fail
  refine (Trim_L l hl _).mono ?_
  rintro e w1 ⟨rfl, hb1⟩
  rw [HT.out]
  go_wp2_with (first | (go_at_call 83; (with_reducible refine (must_yes _ _).mono ?_); rintro e w' ⟨rfl, rfl⟩))
  go_loopw [3, 4] (fun v i wr => ∃ m : Nat, m ≤ l.length ∧ Hid (m % 2 = 0) ∧ i = .int .i64 (m : Int) ∧ wr.ownsRow w1.heap.size 5 1 v (Lib.byteCells (unhex (l.take m))).length (Lib.byteCells (unhex (l.take m))) ∧ Bl w1 wr) (fun _ i _ => l.length - (intOf i).toNat)
  case atStart => exact ⟨0, by omega, rfl, rfl, ⟨rfl, .inl ⟨rfl, rfl⟩⟩, Bl.refl _⟩
  case round =>
    obtain ⟨m, hm, HM, rfl, hown, hB⟩ := hrel
    by_cases hlt : m < l.length
    · have hlt1 : m + 1 < l.length := by have := HE.out; have := HM.out; omega
      obtain ⟨a, ha, ca⟩ : ∃ a : Nat, a < 16 ∧ hv (l[m]'hlt) = a := by
        obtain ⟨h0, h1⟩ := hv_range (l[m]'hlt) (HA.out _ (List.getElem_mem ..))
        exact ⟨(hv l[m]).toNat, by omega, by omega⟩
      obtain ⟨b, hb', cb⟩ : ∃ b : Nat, b < 16 ∧ hv (l[m + 1]'hlt1) = b := by
        obtain ⟨h0, h1⟩ := hv_range (l[m + 1]'hlt1) (HA.out _ (List.getElem_mem ..))
        exact ⟨(hv l[m + 1]).toNat, by omega, by omega⟩
      have i1 : ∀ W, Calls Tryz.prog 105 #[.string ⟨#[48, 49, 50, 51, 52, 53, 54, 55, 56, 57, 97, 98, 99, 100, 101, 102]⟩, .int .u8 ((⟨l.toArray⟩ : ByteArray)[m]'(by rw [size_of_list]; exact hlt)).toNat] W fun e w' => e = .returned (.int .i64 (a : Int)) ∧ w' = W := fun W =>
        (IndexByte_L digitsL _ W).mono fun _ _ ⟨he, hw⟩ => ⟨by rw [he, ← ca]; rfl, hw⟩
      have i2 : ∀ W, Calls Tryz.prog 105 #[.string ⟨#[48, 49, 50, 51, 52, 53, 54, 55, 56, 57, 97, 98, 99, 100, 101, 102]⟩, .int .u8 ((⟨l.toArray⟩ : ByteArray)[m + 1]'(by rw [size_of_list]; exact hlt1)).toNat] W fun e w' => e = .returned (.int .i64 (b : Int)) ∧ w' = W := fun W =>
        (IndexByte_L digitsL _ W).mono fun _ _ ⟨he, hw⟩ => ⟨by rw [he, ← cb]; rfl, hw⟩
      have I1 := Lib.hid i1
      have I2 := Lib.hid i2
      have CA := Lib.hid ca
      have CB := Lib.hid cb
      have hor := or_digits ⟨a, ha⟩ ⟨b, hb'⟩
      clear i1 i2 ca cb
      obtain ⟨i0, hi, hz0, hz1, hz2⟩ := info_parts infoByte
      have hul := unhex_length (l.take m)
      have hul2 : (l.take m).length ≤ 1000000 := by simp; omega
      have hln1 : (Lib.byteCells (unhex (l.take m))).length + 1 ≤ maxLen := by rw [Lib.byteCells_length]; unfold maxLen; omega
      have hln2 : ((Lib.byteCells (unhex (l.take m))).length + 1) * 1 ≤ 140737488355328 := by rw [Lib.byteCells_length]; omega
      have hln3 : w1.heap.size ≤ ((wr.alloc (.cells #[.int .u8 ((a : Int) * 16 + (b : Int))] 5)).drew).heap.size := by have := hB.size; simp; omega
      have x1 : IntKind.i64.wrap ((m : Int) + 1) = (m : Int) + 1 := IntWalk.i64_in _ (by omega)
      have x2 : ((m : Int) + 1).toNat = m + 1 := by omega
      have x3 : 0 ≤ (m : Int) + 1 ∧ (m : Int) + 1 < (l.length : Int) := by omega
      have x4 : IntKind.i64.wrap ((a : Int) * 16) = (a : Int) * 16 := IntWalk.i64_in _ (by omega)
      have x5 : IntKind.u8.wrap ((a : Int) * 16 + (b : Int)) = (a : Int) * 16 + (b : Int) := by simp [IntKind.wrap, IntKind.bits, IntKind.signed]; omega
      go_wp2_with fail
      go_region_held3 (fun _ => True) (trivial)
        (first
          | ((with_reducible refine (I1.out _).mono ?_); rintro e w' ⟨rfl, rfl⟩)
          | ((with_reducible refine (I2.out _).mono ?_); rintro e w' ⟨rfl, rfl⟩)
          | (refine step_append_lies _ (by rfl) _ _ _ (by rfl) w1.heap.size 5 i0 _ 1 1 Tryz.underlying98 hi hz0 hz1 hz2 rfl (by omega) u3 _ _ (by rfl) ((hown.alloc _).drew) ⟨wr.heap.size, 0, none⟩ 1 1 [.int .u8 ((a : Int) * 16 + (b : Int))] (by rfl) (by rfl) (World.news_of_block (cs := #[.int .u8 ((a : Int) * 16 + (b : Int))]) (t := 5) (fr := (0, 0)) (heap_new wr _)) (by simp [Value.oneCell']) (by omega) hln1 hln2 hln3 (wr.heap.size + 1) (by simp) ?_; intro gg cap w3 hown3 hgrow hat hlt3))
      all_goals
        have _k := x3
        clear x4 x5 hor
        go_wp2
        go_roundw
        case rel =>
          refine ⟨m + 2, by omega, by have := HM.out; show (m + 2) % 2 = 0; omega, by go_num, ?_, ?_⟩
          · have e : Lib.byteCells (unhex (l.take (m + 2))) = Lib.byteCells (unhex (l.take m)) ++ [.int .u8 ((a : Int) * 16 + (b : Int))] := by
              rw [unhex_take l m HM.out hlt hlt1, Lib.byteCells_append, CA.out, CB.out]
              congr 1
              simp only [Lib.byteCells, List.map_cons, List.map_nil]
              have : ((16 * (a : Int) + (b : Int)).toNat) % 256 = 16 * a + b := by omega
              simp only [UInt8.toNat_ofNat', this]
              congr 2
              omega
            rw [e]
            simpa using hown3
          · exact Below.grown (Bl.drew (Bl.alloc hB _)) hgrow (by have := hB.size; simp; omega) (fun k hk => (hown.lt k hk).1)
        case measure => simp [intOf]; omega
    · obtain rfl : m = l.length := by omega
      rw [List.take_length] at hown
      rcases hown.2 with ⟨rfl, h2⟩ | ⟨g, cap, cur, rfl, hg, hcur, _⟩
      · have hu : unhex l = [] := by simpa [Lib.byteCells] using h2
        have hcv := run_convert_bytes_nil (P := Tryz.prog) wr 98 5 Tryz.underlying98 Tryz.underlying5 0 0 9 Tryz.underlying9
        have HU := Lib.hid hu
        clear hu h2 hown
        go_wp2
        go_ret
        exact ⟨by rw [HU.out]; rfl, hb1.call hB⟩
      · have hcv := run_convert_bytes_back (P := Tryz.prog) wr 98 9 5 ⟨g, 0, none⟩ cap (unhex l) Tryz.underlying98 Tryz.underlying5 Tryz.underlying9 (by
          intro j hj
          have := hown.cellAt j (by simp [Lib.byteCells_length]; exact hj)
          rw [show (⟨g, 0, none⟩ : Addr).add j = ⟨g, j, none⟩ by simp [Addr.add]; omega, this]
          simp [Lib.byteCells, List.getElem?_eq_getElem hj])
        rw [Lib.byteCells_length] at *
        clear hown hcur
        go_wp2
        go_ret
        exact ⟨rfl, hb1.call hB⟩

end Go.Proofs.YtdhaddldmooniaaGreatDoor
