/- Package token's small parts: must, run, quoted, skip. -/
import Derived.Test.YtdhaddldmooniaaGreatDoorVP
import Derived.Test.YtdhaddldmooniaaGreatDoorPT
namespace Go.Proofs.YtdhaddldmooniaaGreatDoor
open Go.RowKit
set_option maxRecDepth 100000

theorem tmust_yes (n : Int) (w : World) :
    Calls Tryz.prog 34 #[.bool true, .int .i64 n] w fun e w' => e = .returned (.tuple #[]) ∧ w = w' := by
  go_enter Tryz.func34, Tryz.ntmps34
  go_wp2
  go_end0
  exact ⟨rfl, rfl⟩
theorem tmust_no (n : Int) (w : World) :
    Calls Tryz.prog 34 #[.bool false, .int .i64 n] w fun e w' => e = .panicked [{ v := .iface 25 (.int .i64 n), recovered := false }] ∧ w = w' := by
  go_enter Tryz.func34, Tryz.ntmps34
  go_wp2
  exact ⟨rfl, rfl, rfl⟩

theorem decode_ascii (l : List UInt8) (i : Nat) (hb : (l.getD i 0).toNat < 128) : Utf8.decode ⟨l.toArray⟩ i = ((l.getD i 0).toNat, 1) := by
  unfold Utf8.decode
  simp only [get_list]
  simp only [Nat.add_zero]
  rw [if_pos hb]
theorem decode_high (c : UInt8) (h : 128 ≤ c.toNat) : Utf8.decode ⟨[c].toArray⟩ 0 = (65533, 1) := by
  have hsz : (⟨[c].toArray⟩ : ByteArray).size = 1 := rfl
  unfold Utf8.decode
  simp only [get_list, hsz]
  have e : ([c] : List UInt8).getD (0 + 0) 0 = c := rfl
  rw [e, if_neg (by omega)]
  split
  · rename_i c1; simp at c1
  split
  · rename_i c1; simp at c1
  split
  · rename_i c1; simp at c1
  · rfl

set_option maxHeartbeats 1000000 in
theorem IndexRune_none (cs : List UInt8) (hl : cs.length ≤ 1000) (hascii : ∀ b ∈ cs, b.toNat < 128) (w : World) : Calls Tryz.prog 84 #[S cs, .int .i32 65533] w fun e w' => e = .returned (.int .i64 (-1)) ∧ Bl w w' := by
  have HA := Lib.hid hascii
  clear hascii
  go_enter Tryz.func84, Tryz.ntmps84
  go_wp2_with fail
  go_loopw [] (fun wr => ∃ (pos : Nat), pos ≤ cs.length ∧ wr.heap[w.heap.size]? = some (.stringIter ⟨cs.toArray⟩ pos) ∧ Bl w wr) (fun wr => cs.length - wr.iterPos w.heap.size)
  case atStart => exact ⟨0, Nat.zero_le _, World.iter_heap _ _ _, (Bl.refl w).alloc _⟩
  case round =>
    obtain ⟨pos, hpos, hit, hB⟩ := hrel
    by_cases hlt : pos < cs.length
    · have hnx := Lib.run_next_any_at (P := Tryz.prog) wr w.heap.size ⟨cs.toArray⟩ pos 0 hit (by rw [size_of_list]; exact hlt)
      have hgd : cs.getD pos 0 = cs[pos] := by simp [hlt]
      have h128 : (cs.getD pos 0).toNat < 128 := by rw [hgd]; exact HA.out _ (List.getElem_mem hlt)
      rw [decode_ascii cs pos h128] at hnx
      have hit' := Lib.iterAt_heap wr w.heap.size ⟨cs.toArray⟩ pos (pos + 1) hit
      have hB' : Bl w _ := Lib.below_iterAt hB (k := w.heap.size) (Nat.le_refl _) ⟨cs.toArray⟩ (pos + 1)
      generalize wr.iterAt w.heap.size ⟨cs.toArray⟩ (pos + 1) = wn at *
      generalize (cs.getD pos 0).toNat = d at *
      have hne : ((d : Int) == 65533) = false := by simp; omega
      have HIT := Lib.hid hit
      clear hit hB hgd
      go_wp2
      go_roundw
      case rel => exact ⟨pos + 1, by omega, hit', hB'⟩
      case measure =>
        simp only [World.iterPos, hit', HIT.out]
        omega
    · obtain rfl : pos = cs.length := by omega
      have hnx := Lib.run_next_end_at (P := Tryz.prog) wr w.heap.size ⟨cs.toArray⟩ cs.length 0 hit (by rw [size_of_list]; omega)
      clear hit
      go_wp2
      go_ret
      exact ⟨rfl, hB⟩

theorem useASCII_one (w : World) : Calls Tryz.prog 85 #[.int .i64 1] w fun e w' => e = .returned (.bool false) ∧ w = w' := by
  go_enter Tryz.func85, Tryz.ntmps85
  go_wp2
  go_ret
  exact ⟨rfl, rfl⟩

set_option maxHeartbeats 1000000 in
theorem IndexAny_high (c : UInt8) (hc : 128 ≤ c.toNat) (cs : List UInt8) (h2 : 2 ≤ cs.length) (hl : cs.length ≤ 1000) (hascii : ∀ b ∈ cs, b.toNat < 128) (w : World) : Calls Tryz.prog 70 #[S [c], S cs] w fun e w' => e = .returned (.int .i64 (-1)) ∧ Bl w w' := by
  have HA := Lib.hid hascii
  clear hascii
  have hne : (cs == []) = false := by cases cs with
    | nil => simp at h2
    | cons a r => rfl
  have hne1 : ((cs.length : Int) == 1) = false := by simp; omega
  have hne0 : cs.isEmpty = false := by cases cs with
    | nil => simp at h2
    | cons a r => rfl
  go_enter Tryz.func70, Tryz.ntmps70
  go_wp2_with fail
  refine (useASCII_one _).mono ?_
  rintro e w' ⟨rfl, rfl⟩
  go_wp2_with fail
  go_loopw [] (fun wr => ∃ (pos : Nat), pos ≤ 1 ∧ wr.heap[w.heap.size]? = some (.stringIter ⟨[c].toArray⟩ pos) ∧ Bl w wr) (fun wr => 1 - wr.iterPos w.heap.size)
  case atStart => exact ⟨0, Nat.zero_le _, World.iter_heap _ _ _, (Bl.refl w).alloc _⟩
  case round =>
    obtain ⟨pos, hpos, hit, hB⟩ := hrel
    by_cases hlt : pos = 0
    · subst hlt
      have hnx := Lib.run_next_any_at (P := Tryz.prog) wr w.heap.size ⟨[c].toArray⟩ 0 0 hit (by rw [size_of_list]; simp)
      rw [decode_high c hc] at hnx
      have hit' := Lib.iterAt_heap wr w.heap.size ⟨[c].toArray⟩ 0 (0 + 1) hit
      have hB' : Bl w _ := Lib.below_iterAt hB (k := w.heap.size) (Nat.le_refl _) ⟨[c].toArray⟩ (0 + 1)
      simp only [Nat.zero_add] at hnx hit' hB'
      generalize wr.iterAt w.heap.size ⟨[c].toArray⟩ 1 = wn at *
      have HIT := Lib.hid hit
      clear hit hB
      go_wp2_with fail
      refine (IndexRune_none cs hl HA.out _).mono ?_
      rintro e w3 ⟨rfl, hb3⟩
      have hwn : w.heap.size < wn.heap.size := (Array.getElem?_eq_some_iff.1 hit').1
      have hit3 := (hb3.block _ hwn).trans hit'
      go_wp2
      go_roundw
      case rel => exact ⟨1, by omega, hit3, hB'.call hb3⟩
      case measure =>
        simp only [World.iterPos, hit3, HIT.out]
        omega
    · obtain rfl : pos = 1 := by omega
      have hnx := Lib.run_next_end_at (P := Tryz.prog) wr w.heap.size ⟨[c].toArray⟩ 1 0 hit (by rw [size_of_list]; simp)
      clear hit
      go_wp2
      go_ret
      exact ⟨rfl, hB⟩

theorem indexAny_one (c : UInt8) (cs : List UInt8) : Lib.indexAny [c] cs = if cs.contains c then 0 else -1 := by
  simp [Lib.indexAny]

set_option maxHeartbeats 400000 in
theorem ContainsAny_one (c : UInt8) (cs : List UInt8) (h2 : 2 ≤ cs.length) (hl : cs.length ≤ 1000) (hascii : ∀ b ∈ cs, b.toNat < 128) (w : World) : Calls Tryz.prog 55 #[S [c], S cs] w fun e w' => e = .returned (.bool (cs.contains c)) ∧ Bl w w' := by
  by_cases hc : c.toNat < 128
  · have HR := Lib.hid (indexAny_one c cs)
    have HA : Hid (∀ (j : Nat) b, (⟨[c].toArray⟩ : ByteArray).data.toList[j]? = some b → b.toNat < 128) := by
      intro j b hb
      have : b ∈ [c] := List.mem_of_getElem? hb
      simp at this; subst this; exact hc
    have H2 : Hid (2 ≤ (⟨cs.toArray⟩ : ByteArray).size) := by rw [size_of_list]; exact h2
    clear hascii
    go_enter Tryz.func55, Tryz.ntmps55
    go_wp2_with fail
    refine (Tryz.strings_IndexAny_short ⟨[c].toArray⟩ ⟨cs.toArray⟩ _ H2.out (by rw [size_of_list]; simp) HA.out).mono ?_
    rintro e w' ⟨rfl, pos, rfl⟩
    rw [show Lib.indexAny (⟨[c].toArray⟩ : ByteArray).data.toList (⟨cs.toArray⟩ : ByteArray).data.toList = if cs.contains c then 0 else -1 from HR.out]
    cases hb : cs.contains c
    · have HB := Lib.hid hb
      clear hb
      rw [if_neg (by simp)]
      go_wp2
      go_ret
      exact ⟨ret_bool HB.out.symm, (Bl.refl w).alloc _⟩
    · have HB := Lib.hid hb
      clear hb
      rw [if_pos rfl]
      go_wp2
      go_ret
      exact ⟨ret_bool HB.out.symm, (Bl.refl w).alloc _⟩
  · have hno : cs.contains c = false := by
      cases hb : cs.contains c with
      | false => rfl
      | true => exact absurd (hascii c (by simpa using hb)) hc
    have HN := Lib.hid hno
    have HA := Lib.hid hascii
    clear hno hascii
    go_enter Tryz.func55, Tryz.ntmps55
    go_wp2_with fail
    refine (IndexAny_high c (by omega) cs h2 hl HA.out _).mono ?_
    rintro e w' ⟨rfl, hb⟩
    go_wp2
    go_ret
    exact ⟨ret_bool HN.out.symm, hb⟩

/-- A set of bytes, told by its bytes. -/
structure SetOf (p : UInt8 → Bool) (cs : List UInt8) : Prop where
  two : 2 ≤ cs.length
  few : cs.length ≤ 1000
  ascii : ∀ b ∈ cs, b.toNat < 128
  is : ∀ c, cs.contains c = p c
theorem bytes_all {q : UInt8 → Bool} (h : ∀ n : Fin 256, q (UInt8.ofNat n.val) = true) (c : UInt8) : q c = true := by
  have := h ⟨c.toNat, c.toNat_lt⟩
  simpa using this
theorem set_blank : SetOf blankB [32, 9, 10, 13] := ⟨by decide, by decide, by decide, fun c => by
  have := bytes_all (q := fun c => ([32, 9, 10, 13] : List UInt8).contains c == blankB c) (by decide +kernel) c
  simpa using this⟩
theorem set_digit : SetOf digitB [48, 49, 50, 51, 52, 53, 54, 55, 56, 57] := ⟨by decide, by decide, by decide, fun c => by
  have := bytes_all (q := fun c => ([48, 49, 50, 51, 52, 53, 54, 55, 56, 57] : List UInt8).contains c == digitB c) (by decide +kernel) c
  exact eq_of_beq this⟩
theorem set_letter : SetOf letterB [97, 98, 99, 100, 101, 102, 103, 104, 105, 106, 107, 108, 109, 110, 111, 112, 113, 114, 115, 116, 117, 118, 119, 120, 121, 122, 95] := ⟨by decide, by decide, by decide, fun c => by
  have := bytes_all (q := fun c => ([97, 98, 99, 100, 101, 102, 103, 104, 105, 106, 107, 108, 109, 110, 111, 112, 113, 114, 115, 116, 117, 118, 119, 120, 121, 122, 95] : List UInt8).contains c == letterB c) (by decide +kernel) c
  exact eq_of_beq this⟩
theorem set_word : SetOf wordB [97, 98, 99, 100, 101, 102, 103, 104, 105, 106, 107, 108, 109, 110, 111, 112, 113, 114, 115, 116, 117, 118, 119, 120, 121, 122, 95, 48, 49, 50, 51, 52, 53, 54, 55, 56, 57] := ⟨by decide, by decide, by decide, fun c => by
  have := bytes_all (q := fun c => ([97, 98, 99, 100, 101, 102, 103, 104, 105, 106, 107, 108, 109, 110, 111, 112, 113, 114, 115, 116, 117, 118, 119, 120, 121, 122, 95, 48, 49, 50, 51, 52, 53, 54, 55, 56, 57] : List UInt8).contains c == wordB c) (by decide +kernel) c
  exact eq_of_beq this⟩

theorem ext_one (l : List UInt8) (i : Nat) (h : i < l.length) : (⟨l.toArray⟩ : ByteArray).extract i (i + 1) = ⟨[l[i]].toArray⟩ := by
  apply ByteArray.ext
  apply Array.ext'
  simp [List.take_one, List.head?_drop, h]
theorem ext_tail (l : List UInt8) (i : Nat) : (⟨l.toArray⟩ : ByteArray).extract i l.length = ⟨(l.drop i).toArray⟩ := by
  apply ByteArray.ext
  apply Array.ext'
  simp
  rw [List.take_of_length_le (by simp)]
theorem ext_head (l : List UInt8) (n : Nat) : (⟨l.toArray⟩ : ByteArray).extract 0 n = ⟨(l.take n).toArray⟩ := by
  apply ByteArray.ext
  apply Array.ext'
  simp

theorem runB_at {p : UInt8 → Bool} {l : List UInt8} {i : Nat} (h : ∀ c ∈ l.take i, p c = true) (hs : Stops p (l.drop i)) (hi : i ≤ l.length) : runB p l = i := by
  have := runB_of h hs
  rw [List.take_append_drop] at this
  rw [this]; simp; omega

set_option maxHeartbeats 1000000 in
theorem trun_any {p : UInt8 → Bool} {cs : List UInt8} (hS : SetOf p cs) (l : List UInt8) (hl : l.length ≤ 1000000) (w : World) : Calls Tryz.prog 45 #[S l, S cs] w fun e w' => e = .returned (.int .i64 (runB p l)) ∧ Bl w w' := by
  have HSet := Lib.hid hS
  clear hS
  go_enter Tryz.func45, Tryz.ntmps45
  go_wp2_with fail
  go_loopw [] (fun wr => ∃ (pos : Nat), pos ≤ l.length ∧ wr.heap[w.heap.size]? = some (.stringIter ⟨l.toArray⟩ pos) ∧ Bl w wr ∧ Hid (∀ c ∈ l.take pos, p c = true)) (fun wr => l.length - wr.iterPos w.heap.size)
  case atStart => exact ⟨0, Nat.zero_le _, World.iter_heap _ _ _, (Bl.refl w).alloc _, fun c hc => by simp at hc⟩
  case round =>
    obtain ⟨pos, hpos, hit, hB, HT⟩ := hrel
    by_cases hlt : pos < l.length
    · have hnx := Lib.run_next_any_at (P := Tryz.prog) wr w.heap.size ⟨l.toArray⟩ pos 0 hit (by rw [size_of_list]; exact hlt)
      have hit' := Lib.iterAt_heap wr w.heap.size ⟨l.toArray⟩ pos (pos + (Utf8.decode ⟨l.toArray⟩ pos).2) hit
      have hB' : Bl w _ := Lib.below_iterAt hB (k := w.heap.size) (Nat.le_refl _) ⟨l.toArray⟩ (pos + (Utf8.decode ⟨l.toArray⟩ pos).2)
      have HD : Hid ((l.getD pos 0).toNat < 128 → Utf8.decode ⟨l.toArray⟩ pos = ((l.getD pos 0).toNat, 1)) := decode_ascii l pos
      have hcut := ext_one l pos hlt
      have HC : Hid (l.getD pos 0 = l[pos]) := by show l.getD pos 0 = l[pos]; simp [hlt]
      have HCM : Hid (l[pos]? = some l[pos]) := List.getElem?_eq_getElem hlt
      generalize hdd : Utf8.decode ⟨l.toArray⟩ pos = dd at *
      obtain ⟨d1, d2⟩ := dd
      simp only at hnx hit' hB'
      generalize wr.iterAt w.heap.size ⟨l.toArray⟩ (pos + d2) = wn at *
      generalize l[pos] = c at *
      have HIT := Lib.hid hit
      clear hit hB hdd
      have hwn : w.heap.size < wn.heap.size := (Array.getElem?_eq_some_iff.1 hit').1
      obtain ⟨C, fz, cap, hCc, hcv⟩ := bytes_of [c] wn
      have hcb := run_convert_bytes_back (P := Tryz.prog) (wn.alloc (.cells C 5 fz)).drew 98 9 5 ⟨wn.heap.size, 0, none⟩ cap [c] Tryz.underlying98 Tryz.underlying5 Tryz.underlying9 (by
        intro j hj
        have := hCc j hj
        rw [show ((wn.alloc (.cells C 5 fz)).drew).cell? ((⟨wn.heap.size, 0, none⟩ : Addr).add j) = C[j]? by
          show (wn.alloc (.cells C 5 fz)).cell? _ = _
          rw [show (⟨wn.heap.size, 0, none⟩ : Addr).add j = ⟨wn.heap.size, j, none⟩ by simp [Addr.add]; omega]
          rw [Lib.cell_of_heap (heap_new wn _)], this]
        simp [List.getElem?_eq_getElem hj])
      have hBd : Bl wn ((wn.alloc (.cells C 5 fz)).drew) := ((Bl.refl wn).alloc _).drew
      have HBd := Lib.hid hBd
      clear hCc hBd
      simp only [List.length_singleton] at hcv hcb
      go_wp2_with fail
      refine (ContainsAny_one c cs HSet.out.two HSet.out.few HSet.out.ascii _).mono ?_
      rintro e w3 ⟨rfl, hb3⟩
      have hb4 : Bl wn w3 := HBd.out.call hb3
      have hit3 := (hb4.block _ hwn).trans hit'
      rw [HSet.out.is c]
      clear hcv hcb hcut hb3 hnx
      cases hp : p c
      · have HP := Lib.hid hp
        clear hp
        go_wp2
        go_ret
        refine ⟨ret_int (congrArg _ (runB_at HT.out ?_ (by omega)).symm), hB'.call hb4⟩
        intro a ha
        rw [List.head?_drop, HCM.out] at ha
        injection ha with ha
        rw [← ha]; exact HP.out
      · have HP := Lib.hid hp
        have h128 : c.toNat < 128 := HSet.out.ascii c (by have := HSet.out.is c; rw [hp] at this; simpa using this)
        clear hp
        have hdec := HD.out (by rw [HC.out]; exact h128)
        rw [HC.out] at hdec
        injection hdec with e1 e2
        subst e1 e2
        have hgt : ¬ (127 < (c.toNat : Int)) := by omega
        go_wp2
        go_roundw
        case rel =>
          refine ⟨pos + 1, by omega, hit3, hB'.call hb4, fun a ha => ?_⟩
          rw [List.take_add_one, HCM.out] at ha
          simp at ha
          rcases ha with ha | rfl
          · exact HT.out a ha
          · exact HP.out
        case measure =>
          simp only [World.iterPos, hit3, HIT.out]
          omega
    · obtain rfl : pos = l.length := by omega
      have hnx := Lib.run_next_end_at (P := Tryz.prog) wr w.heap.size ⟨l.toArray⟩ l.length 0 hit (by rw [size_of_list]; omega)
      clear hit
      go_wp2
      go_ret
      exact ⟨ret_int (congrArg _ (runB_at HT.out (by intro a ha; simp at ha) (Nat.le_refl _)).symm), hB⟩

end Go.Proofs.YtdhaddldmooniaaGreatDoor
