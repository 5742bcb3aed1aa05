/- Package token's small parts: must, run, quoted, skip. Package token: quoted, skip. Package token: what tokens begin with. Package token: signs, found, the third beginning, begins. Package token: one. Package token: caught, read, All. -/
import Derived.Test.YtepkfkfedmbmnaaGreatDoorMG
import Derived.Test.YtepkfkfedmbmnaaGreatDoorMP
import Derived.Lib.IndexLaws
import Derived.Shelf.SlicesE.IndexFunc
namespace Go.Proofs.YtepkfkfedmbmnaaGreatDoor
open Go.RowKit
set_option maxRecDepth 100000

theorem tmust_yes (n : Int) (w : World) :
    Calls Tryz.prog 80 #[.bool true, .int .i64 n] w fun e w' => e = .returned (.tuple #[]) ∧ w = w' := by
  go_enter Tryz.func80, Tryz.ntmps80
  go_wp2
  go_end0
  exact ⟨rfl, rfl⟩
theorem tmust_no (n : Int) (w : World) :
    Calls Tryz.prog 80 #[.bool false, .int .i64 n] w fun e w' => e = .panicked [{ v := .iface 31 (.int .i64 n), recovered := false }] ∧ w = w' := by
  go_enter Tryz.func80, Tryz.ntmps80
  go_wp2
  exact ⟨rfl, rfl, rfl⟩

theorem decode_ascii (l : List UInt8) (i : Nat) (hb : (l.getD i 0).toNat < 128) : Utf8.decode ⟨l.toArray⟩ i = ((l.getD i 0).toNat, 1) := by
  unfold Utf8.decode
  simp only [get_list]
  simp only [Nat.add_zero]
  rw [if_pos hb]
theorem decode_high (c : UInt8) (h : 128 ≤ c.toNat) : Utf8.decode ⟨[c].toArray⟩ 0 = (65533, 1) := by
  have hsz : (⟨[c].toArray⟩ : ByteArray).size = 1 := rfl
  unfold Utf8.decode
  simp only [get_list, hsz]
  have e : ([c] : List UInt8).getD (0 + 0) 0 = c := rfl
  rw [e, if_neg (by omega)]
  split
  · rename_i c1; simp at c1
  split
  · rename_i c1; simp at c1
  split
  · rename_i c1; simp at c1
  · rfl

set_option maxHeartbeats 1000000 in
theorem IndexRune_none (cs : List UInt8) (_hl : cs.length ≤ 1000) (hascii : ∀ b ∈ cs, b.toNat < 128) (w : World) : Calls Tryz.prog 172 #[S cs, .int .i32 65533] w fun e w' => e = .returned (.int .i64 (-1)) ∧ Bl w w' := by
  have HA := Lib.hid hascii
  clear hascii
  go_enter Tryz.func172, Tryz.ntmps172
  go_wp2_with fail
  go_loopw [] (fun wr => ∃ (pos : Nat), pos ≤ cs.length ∧ wr.heap[w.heap.size]? = some (.stringIter ⟨cs.toArray⟩ pos) ∧ Bl w wr) (fun wr => cs.length - wr.iterPos w.heap.size)
  case atStart => exact ⟨0, Nat.zero_le _, World.iter_heap _ _ _, (Bl.refl w).alloc _⟩
  case round =>
    obtain ⟨pos, hpos, hit, hB⟩ := hrel
    by_cases hlt : pos < cs.length
    · have hnx := Lib.run_next_any_at (P := Tryz.prog) wr w.heap.size ⟨cs.toArray⟩ pos 0 hit (by rw [size_of_list]; exact hlt)
      have hgd : cs.getD pos 0 = cs[pos] := by simp [hlt]
      have h128 : (cs.getD pos 0).toNat < 128 := by rw [hgd]; exact HA.out _ (List.getElem_mem hlt)
      rw [decode_ascii cs pos h128] at hnx
      have hit' := Lib.iterAt_heap wr w.heap.size ⟨cs.toArray⟩ pos (pos + 1) hit
      have hB' : Bl w _ := Lib.below_iterAt hB (k := w.heap.size) (Nat.le_refl _) ⟨cs.toArray⟩ (pos + 1)
      generalize wr.iterAt w.heap.size ⟨cs.toArray⟩ (pos + 1) = wn at *
      generalize (cs.getD pos 0).toNat = d at *
      have hne : ((d : Int) == 65533) = false := by simp; omega
      have HIT := Lib.hid hit
      clear hit hB hgd
      go_wp2
      go_roundw
      case rel => exact ⟨pos + 1, by omega, hit', hB'⟩
      case measure =>
        simp only [World.iterPos, hit', HIT.out]
        omega
    · obtain rfl : pos = cs.length := by omega
      have hnx := Lib.run_next_end_at (P := Tryz.prog) wr w.heap.size ⟨cs.toArray⟩ cs.length 0 hit (by rw [size_of_list]; omega)
      clear hit
      go_wp2
      go_ret
      exact ⟨rfl, hB⟩

theorem useASCII_one (w : World) : Calls Tryz.prog 173 #[.int .i64 1] w fun e w' => e = .returned (.bool false) ∧ w = w' := by
  go_enter Tryz.func173, Tryz.ntmps173
  go_wp2
  go_ret
  exact ⟨rfl, rfl⟩

set_option maxHeartbeats 1000000 in
theorem IndexAny_high (c : UInt8) (hc : 128 ≤ c.toNat) (cs : List UInt8) (h2 : 2 ≤ cs.length) (hl : cs.length ≤ 1000) (hascii : ∀ b ∈ cs, b.toNat < 128) (w : World) : Calls Tryz.prog 155 #[S [c], S cs] w fun e w' => e = .returned (.int .i64 (-1)) ∧ Bl w w' := by
  have HA := Lib.hid hascii
  clear hascii
  have hne : (cs == []) = false := by cases cs with
    | nil => simp at h2
    | cons a r => rfl
  have hne1 : ((cs.length : Int) == 1) = false := by simp; omega
  have hne0 : cs.isEmpty = false := by cases cs with
    | nil => simp at h2
    | cons a r => rfl
  go_enter Tryz.func155, Tryz.ntmps155
  go_wp2_with fail
  refine (useASCII_one _).mono ?_
  rintro e w' ⟨rfl, rfl⟩
  go_wp2_with fail
  go_loopw [] (fun wr => ∃ (pos : Nat), pos ≤ 1 ∧ wr.heap[w.heap.size]? = some (.stringIter ⟨[c].toArray⟩ pos) ∧ Bl w wr) (fun wr => 1 - wr.iterPos w.heap.size)
  case atStart => exact ⟨0, Nat.zero_le _, World.iter_heap _ _ _, (Bl.refl w).alloc _⟩
  case round =>
    obtain ⟨pos, hpos, hit, hB⟩ := hrel
    by_cases hlt : pos = 0
    · subst hlt
      have hnx := Lib.run_next_any_at (P := Tryz.prog) wr w.heap.size ⟨[c].toArray⟩ 0 0 hit (by rw [size_of_list]; simp)
      rw [decode_high c hc] at hnx
      have hit' := Lib.iterAt_heap wr w.heap.size ⟨[c].toArray⟩ 0 (0 + 1) hit
      have hB' : Bl w _ := Lib.below_iterAt hB (k := w.heap.size) (Nat.le_refl _) ⟨[c].toArray⟩ (0 + 1)
      simp only [Nat.zero_add] at hnx hit' hB'
      generalize wr.iterAt w.heap.size ⟨[c].toArray⟩ 1 = wn at *
      have HIT := Lib.hid hit
      clear hit hB
      go_wp2_with fail
      refine (IndexRune_none cs hl HA.out _).mono ?_
      rintro e w3 ⟨rfl, hb3⟩
      have hwn : w.heap.size < wn.heap.size := (Array.getElem?_eq_some_iff.1 hit').1
      have hit3 := (hb3.block _ hwn).trans hit'
      go_wp2
      go_roundw
      case rel => exact ⟨1, by omega, hit3, hB'.call hb3⟩
      case measure =>
        simp only [World.iterPos, hit3, HIT.out]
        omega
    · obtain rfl : pos = 1 := by omega
      have hnx := Lib.run_next_end_at (P := Tryz.prog) wr w.heap.size ⟨[c].toArray⟩ 1 0 hit (by rw [size_of_list]; simp)
      clear hit
      go_wp2
      go_ret
      exact ⟨rfl, hB⟩

theorem indexAny_one (c : UInt8) (cs : List UInt8) : Lib.indexAny [c] cs = if cs.contains c then 0 else -1 := by
  simp [Lib.indexAny]

set_option maxHeartbeats 400000 in
theorem ContainsAny_one (c : UInt8) (cs : List UInt8) (h2 : 2 ≤ cs.length) (hl : cs.length ≤ 1000) (hascii : ∀ b ∈ cs, b.toNat < 128) (w : World) : Calls Tryz.prog 127 #[S [c], S cs] w fun e w' => e = .returned (.bool (cs.contains c)) ∧ Bl w w' := by
  by_cases hc : c.toNat < 128
  · have HR := Lib.hid (indexAny_one c cs)
    have HA : Hid (∀ (j : Nat) b, (⟨[c].toArray⟩ : ByteArray).data.toList[j]? = some b → b.toNat < 128) := by
      intro j b hb
      have : b ∈ [c] := List.mem_of_getElem? hb
      simp at this; subst this; exact hc
    have H2 : Hid (2 ≤ (⟨cs.toArray⟩ : ByteArray).size) := by rw [size_of_list]; exact h2
    clear hascii
    go_enter Tryz.func127, Tryz.ntmps127
    go_wp2_with fail
    refine (Tryz.strings_IndexAny_short ⟨[c].toArray⟩ ⟨cs.toArray⟩ _ H2.out (by rw [size_of_list]; simp) HA.out).mono ?_
    rintro e w' ⟨rfl, pos, rfl⟩
    rw [show Lib.indexAny (⟨[c].toArray⟩ : ByteArray).data.toList (⟨cs.toArray⟩ : ByteArray).data.toList = if cs.contains c then 0 else -1 from HR.out]
    cases hb : cs.contains c
    · have HB := Lib.hid hb
      clear hb
      rw [if_neg (by simp)]
      go_wp2
      go_ret
      exact ⟨ret_bool HB.out.symm, (Bl.refl w).alloc _⟩
    · have HB := Lib.hid hb
      clear hb
      rw [if_pos rfl]
      go_wp2
      go_ret
      exact ⟨ret_bool HB.out.symm, (Bl.refl w).alloc _⟩
  · have hno : cs.contains c = false := by
      cases hb : cs.contains c with
      | false => rfl
      | true => exact absurd (hascii c (by simpa using hb)) hc
    have HN := Lib.hid hno
    have HA := Lib.hid hascii
    clear hno hascii
    go_enter Tryz.func127, Tryz.ntmps127
    go_wp2_with fail
    refine (IndexAny_high c (by omega) cs h2 hl HA.out _).mono ?_
    rintro e w' ⟨rfl, hb⟩
    go_wp2
    go_ret
    exact ⟨ret_bool HN.out.symm, hb⟩

/-- A set of bytes, told by its bytes. -/
structure SetOf (p : UInt8 → Bool) (cs : List UInt8) : Prop where
  two : 2 ≤ cs.length
  few : cs.length ≤ 1000
  ascii : ∀ b ∈ cs, b.toNat < 128
  is : ∀ c, cs.contains c = p c
theorem bytes_all {q : UInt8 → Bool} (h : ∀ n : Fin 256, q (UInt8.ofNat n.val) = true) (c : UInt8) : q c = true := by
  have := h ⟨c.toNat, c.toNat_lt⟩
  simpa using this
theorem set_blank : SetOf blankB [32, 9, 10, 13] := ⟨by decide, by decide, by decide, fun c => by
  have := bytes_all (q := fun c => ([32, 9, 10, 13] : List UInt8).contains c == blankB c) (by decide +kernel) c
  simpa using this⟩
theorem set_digit : SetOf digitB [48, 49, 50, 51, 52, 53, 54, 55, 56, 57] := ⟨by decide, by decide, by decide, fun c => by
  have := bytes_all (q := fun c => ([48, 49, 50, 51, 52, 53, 54, 55, 56, 57] : List UInt8).contains c == digitB c) (by decide +kernel) c
  exact eq_of_beq this⟩
theorem set_letter : SetOf letterB [97, 98, 99, 100, 101, 102, 103, 104, 105, 106, 107, 108, 109, 110, 111, 112, 113, 114, 115, 116, 117, 118, 119, 120, 121, 122, 95] := ⟨by decide, by decide, by decide, fun c => by
  have := bytes_all (q := fun c => ([97, 98, 99, 100, 101, 102, 103, 104, 105, 106, 107, 108, 109, 110, 111, 112, 113, 114, 115, 116, 117, 118, 119, 120, 121, 122, 95] : List UInt8).contains c == letterB c) (by decide +kernel) c
  exact eq_of_beq this⟩
theorem set_word : SetOf wordB [97, 98, 99, 100, 101, 102, 103, 104, 105, 106, 107, 108, 109, 110, 111, 112, 113, 114, 115, 116, 117, 118, 119, 120, 121, 122, 95, 48, 49, 50, 51, 52, 53, 54, 55, 56, 57] := ⟨by decide, by decide, by decide, fun c => by
  have := bytes_all (q := fun c => ([97, 98, 99, 100, 101, 102, 103, 104, 105, 106, 107, 108, 109, 110, 111, 112, 113, 114, 115, 116, 117, 118, 119, 120, 121, 122, 95, 48, 49, 50, 51, 52, 53, 54, 55, 56, 57] : List UInt8).contains c == wordB c) (by decide +kernel) c
  exact eq_of_beq this⟩

theorem ext_one (l : List UInt8) (i : Nat) (h : i < l.length) : (⟨l.toArray⟩ : ByteArray).extract i (i + 1) = ⟨[l[i]].toArray⟩ := by
  apply ByteArray.ext
  apply Array.ext'
  simp [List.take_one, List.head?_drop, h]
theorem ext_tail (l : List UInt8) (i : Nat) : (⟨l.toArray⟩ : ByteArray).extract i l.length = ⟨(l.drop i).toArray⟩ := by
  apply ByteArray.ext
  apply Array.ext'
  simp
  rw [List.take_of_length_le (by simp)]
theorem ext_head (l : List UInt8) (n : Nat) : (⟨l.toArray⟩ : ByteArray).extract 0 n = ⟨(l.take n).toArray⟩ := by
  apply ByteArray.ext
  apply Array.ext'
  simp

theorem runB_at {p : UInt8 → Bool} {l : List UInt8} {i : Nat} (h : ∀ c ∈ l.take i, p c = true) (hs : Stops p (l.drop i)) (hi : i ≤ l.length) : runB p l = i := by
  have := runB_of h hs
  rw [List.take_append_drop] at this
  rw [this]; simp; omega

set_option maxHeartbeats 1000000 in
theorem trun_any {p : UInt8 → Bool} {cs : List UInt8} (hS : SetOf p cs) (l : List UInt8) (hl : l.length ≤ 1000000) (w : World) : Calls Tryz.prog 113 #[S l, S cs] w fun e w' => e = .returned (.int .i64 (runB p l)) ∧ Bl w w' := by
  have HSet := Lib.hid hS
  clear hS
  go_enter Tryz.func113, Tryz.ntmps113
  go_wp2_with fail
  go_loopw [] (fun wr => ∃ (pos : Nat), pos ≤ l.length ∧ wr.heap[w.heap.size]? = some (.stringIter ⟨l.toArray⟩ pos) ∧ Bl w wr ∧ Hid (∀ c ∈ l.take pos, p c = true)) (fun wr => l.length - wr.iterPos w.heap.size)
  case atStart => exact ⟨0, Nat.zero_le _, World.iter_heap _ _ _, (Bl.refl w).alloc _, fun c hc => by simp at hc⟩
  case round =>
    obtain ⟨pos, hpos, hit, hB, HT⟩ := hrel
    by_cases hlt : pos < l.length
    · have hnx := Lib.run_next_any_at (P := Tryz.prog) wr w.heap.size ⟨l.toArray⟩ pos 0 hit (by rw [size_of_list]; exact hlt)
      have hit' := Lib.iterAt_heap wr w.heap.size ⟨l.toArray⟩ pos (pos + (Utf8.decode ⟨l.toArray⟩ pos).2) hit
      have hB' : Bl w _ := Lib.below_iterAt hB (k := w.heap.size) (Nat.le_refl _) ⟨l.toArray⟩ (pos + (Utf8.decode ⟨l.toArray⟩ pos).2)
      have HD : Hid ((l.getD pos 0).toNat < 128 → Utf8.decode ⟨l.toArray⟩ pos = ((l.getD pos 0).toNat, 1)) := decode_ascii l pos
      have hcut := ext_one l pos hlt
      have HC : Hid (l.getD pos 0 = l[pos]) := by show l.getD pos 0 = l[pos]; simp [hlt]
      have HCM : Hid (l[pos]? = some l[pos]) := List.getElem?_eq_getElem hlt
      generalize hdd : Utf8.decode ⟨l.toArray⟩ pos = dd at *
      obtain ⟨d1, d2⟩ := dd
      simp only at hnx hit' hB'
      generalize wr.iterAt w.heap.size ⟨l.toArray⟩ (pos + d2) = wn at *
      generalize l[pos] = c at *
      have HIT := Lib.hid hit
      clear hit hB hdd
      have hwn : w.heap.size < wn.heap.size := (Array.getElem?_eq_some_iff.1 hit').1
      obtain ⟨C, fz, cap, hCc, hcv⟩ := bytes_of [c] wn
      have hcb := run_convert_bytes_back (P := Tryz.prog) (wn.alloc (.cells C 5 fz)).drew 130 9 5 ⟨wn.heap.size, 0, none⟩ cap [c] Tryz.underlying130 Tryz.underlying5 Tryz.underlying9 (by
        intro j hj
        have := hCc j hj
        rw [show ((wn.alloc (.cells C 5 fz)).drew).cell? ((⟨wn.heap.size, 0, none⟩ : Addr).add j) = C[j]? by
          show (wn.alloc (.cells C 5 fz)).cell? _ = _
          rw [show (⟨wn.heap.size, 0, none⟩ : Addr).add j = ⟨wn.heap.size, j, none⟩ by simp [Addr.add]; omega]
          rw [Lib.cell_of_heap (heap_new wn _)], this]
        simp [List.getElem?_eq_getElem hj])
      have hBd : Bl wn ((wn.alloc (.cells C 5 fz)).drew) := ((Bl.refl wn).alloc _).drew
      have HBd := Lib.hid hBd
      clear hCc hBd
      simp only [List.length_singleton] at hcv hcb
      go_wp2_with fail
      refine (ContainsAny_one c cs HSet.out.two HSet.out.few HSet.out.ascii _).mono ?_
      rintro e w3 ⟨rfl, hb3⟩
      have hb4 : Bl wn w3 := HBd.out.call hb3
      have hit3 := (hb4.block _ hwn).trans hit'
      rw [HSet.out.is c]
      clear hcv hcb hcut hb3 hnx
      cases hp : p c
      · have HP := Lib.hid hp
        clear hp
        go_wp2
        go_ret
        refine ⟨ret_int (congrArg _ (runB_at HT.out ?_ (by omega)).symm), hB'.call hb4⟩
        intro a ha
        rw [List.head?_drop, HCM.out] at ha
        injection ha with ha
        rw [← ha]; exact HP.out
      · have HP := Lib.hid hp
        have h128 : c.toNat < 128 := HSet.out.ascii c (by have := HSet.out.is c; rw [hp] at this; simpa using this)
        clear hp
        have hdec := HD.out (by rw [HC.out]; exact h128)
        rw [HC.out] at hdec
        injection hdec with e1 e2
        subst e1 e2
        have hgt : ¬ (127 < (c.toNat : Int)) := by omega
        go_wp2
        go_roundw
        case rel =>
          refine ⟨pos + 1, by omega, hit3, hB'.call hb4, fun a ha => ?_⟩
          rw [List.take_add_one, HCM.out] at ha
          simp at ha
          rcases ha with ha | rfl
          · exact HT.out a ha
          · exact HP.out
        case measure =>
          simp only [World.iterPos, hit3, HIT.out]
          omega
    · obtain rfl : pos = l.length := by omega
      have hnx := Lib.run_next_end_at (P := Tryz.prog) wr w.heap.size ⟨l.toArray⟩ l.length 0 hit (by rw [size_of_list]; omega)
      clear hit
      go_wp2
      go_ret
      exact ⟨ret_int (congrArg _ (runB_at HT.out (by intro a ha; simp at ha) (Nat.le_refl _)).symm), hB⟩

end Go.Proofs.YtepkfkfedmbmnaaGreatDoor

namespace Go.Proofs.YtepkfkfedmbmnaaGreatDoor
open Go.RowKit
set_option maxRecDepth 100000

theorem HasPrefix_L (a b : List UInt8) (w : World) : Calls Tryz.prog 114 #[S a, S b] w fun e w' => e = .returned (.bool (Lib.hasPrefix a b)) ∧ w = w' :=
  (Tryz.strings_HasPrefix ⟨a.toArray⟩ ⟨b.toArray⟩ w).mono fun _ _ ⟨he, hw⟩ => ⟨he, hw.symm⟩
theorem SIndex_L (a : List UInt8) (c : UInt8) (w : World) : Calls Tryz.prog 115 #[S a, S [c]] w fun e w' => e = .returned (.int .i64 (Lib.indexByte a c)) ∧ w = w' :=
  (Tryz.strings_Index_one ⟨a.toArray⟩ c w).mono fun _ _ ⟨he, hw⟩ => ⟨he, hw.symm⟩

theorem hasPrefix_one (l : List UInt8) (c : UInt8) : Lib.hasPrefix l [c] = (l.head? == some c) := by
  cases l with
  | nil => rfl
  | cons d l => simp [Lib.hasPrefix, List.isPrefixOf]; exact Bool.beq_comm
theorem hasPrefix_two (l : List UInt8) (c d : UInt8) : Lib.hasPrefix l [c, d] = (l.head? == some c && l[1]? == some d) := by
  match l with
  | [] => rfl
  | [e] => simp [Lib.hasPrefix, List.isPrefixOf]
  | e :: f :: l => simp [Lib.hasPrefix, List.isPrefixOf]; rw [Bool.beq_comm (a := c), Bool.beq_comm (a := d)]

def quoteAt (l : List UInt8) (n : Nat) : Ending := match qlen (l.drop n) with
  | some k => .returned (.int .i64 ((n + k : Nat) : Int))
  | none => .panicked [{ v := .iface 31 (.int .i64 250), recovered := false }]
/-- From place i on it is as from n on. -/
def QAt (l : List UInt8) (n i : Nat) : Prop := n ≤ i ∧ i ≤ l.length ∧ qlen (l.drop n) = (qlen (l.drop i)).map (· + (i - n))
theorem QAt.step {l : List UInt8} {n i : Nat} (h : QAt l n i) (hi : i < l.length) (hc : l[i] ≠ 39) : QAt l n (i + 1) := by
  refine ⟨by have := h.1; omega, by omega, ?_⟩
  rw [h.2.2, List.drop_eq_getElem_cons hi, qlen_cons_ne hc, Option.map_map]
  congr 1
  funext x
  simp only [Function.comp]
  have := h.1; omega
theorem QAt.pair {l : List UInt8} {n i : Nat} (h : QAt l n i) (hi : i + 1 < l.length) (hc : l[i] = 39) (hd : l[i + 1] = 39) : QAt l n (i + 2) := by
  refine ⟨by have := h.1; omega, by omega, ?_⟩
  rw [h.2.2, List.drop_eq_getElem_cons (by omega), List.drop_eq_getElem_cons hi, hc, hd, qlen_pair, Option.map_map]
  congr 1
  funext x
  simp only [Function.comp]
  have := h.1; omega
theorem QAt.done {l : List UInt8} {n i : Nat} (h : QAt l n i) (hi : i < l.length) (hc : l[i] = 39) (hd : (l.drop (i + 1)).head? ≠ some 39) : quoteAt l n = .returned (.int .i64 ((i : Int) + 1)) := by
  have : qlen (l.drop n) = some (1 + (i - n)) := by rw [h.2.2, List.drop_eq_getElem_cons hi, hc, qlen_end hd]; rfl
  unfold quoteAt
  rw [this]
  have := h.1
  simp only
  congr 2
  omega
theorem QAt.none {l : List UInt8} {n : Nat} (h : QAt l n l.length) : quoteAt l n = .panicked [{ v := .iface 31 (.int .i64 250), recovered := false }] := by
  have : qlen (l.drop n) = Option.none := by rw [h.2.2]; simp [qlen]
  unfold quoteAt
  rw [this]

set_option maxHeartbeats 1000000 in
theorem tquoted_any (l : List UInt8) (n : Nat) (hn : n ≤ l.length) (hl : l.length ≤ 1000000) (w : World) : Calls Tryz.prog 132 #[S l, .int .i64 n] w fun e w' => e = quoteAt l n ∧ w = w' := by
  go_enter Tryz.func132, Tryz.ntmps132
  go_wp2_with fail
  go_loop [5] (fun i => ∃ k : Nat, k ≤ l.length ∧ i = .int .i64 k ∧ Hid (QAt l n k)) (fun i => l.length - (intOf i).toNat)
  case atStart => exact ⟨n, hn, rfl, ⟨Nat.le_refl _, hn, by simp⟩⟩
  case round =>
    obtain ⟨k, hk, rfl, HQ⟩ := hrel
    by_cases hlt : k < l.length
    · have hcut := ext_one l k hlt
      have htail := ext_tail l (k + 1)
      have HK : Hid (l[k] = l[k]) := rfl
      by_cases hc : l[k] = 39
      · have HC := Lib.hid hc
        rw [hc] at hcut
        clear hc HK
        go_wp2_with fail
        refine (HasPrefix_L (l.drop (k + 1)) [39] _).mono ?_
        rintro e w' ⟨rfl, rfl⟩
        rw [hasPrefix_one]
        clear hcut htail
        by_cases hd : (l.drop (k + 1)).head? = some 39
        · have hb : ((l.drop (k + 1)).head? == some 39) = true := by simp [hd]
          rw [hb]
          have hk1 : k + 1 < l.length := by
            rcases Nat.lt_or_ge (k + 1) l.length with h | h
            · exact h
            · rw [List.drop_of_length_le h] at hd; simp at hd
          have HD : Hid (l[k + 1] = 39) := by
            show l[k + 1] = 39
            rw [List.head?_drop, List.getElem?_eq_getElem hk1] at hd
            simpa using hd
          clear hb hd
          go_wp2
          go_round
          case rel => exact ⟨k + 2, by omega, by go_num, HQ.out.pair hk1 HC.out HD.out⟩
          case measure => simp [intOf]; omega
        · have hb : ((l.drop (k + 1)).head? == some 39) = false := by simpa using hd
          rw [hb]
          have HD := Lib.hid hd
          clear hb hd
          go_wp2
          go_ret
          exact ⟨(HQ.out.done hlt HC.out HD.out).symm, rfl⟩
      · have HC := Lib.hid hc
        have hb : ([l[k]] != [39]) = true := by simpa using hc
        have hb' : ([l[k]] == [39]) = false := by simpa using hc
        have hb2 : (l[k] != 39) = true := by simpa using hc
        have hb2' : (l[k] == 39) = false := by simpa using hc
        clear hc HK
        go_wp2
        go_round
        case rel => exact ⟨k + 1, by omega, by go_num, HQ.out.step hlt HC.out⟩
        case measure => simp [intOf]; omega
    · obtain rfl : k = l.length := by omega
      go_wp2
      exact ⟨rfl, HQ.out.none.symm, rfl⟩

/-- From place k on it is as from the beginning. -/
def SkAt (l : List UInt8) (k : Nat) : Prop := skipM false (l.drop k) = skipM false l
theorem SkAt.blanks {l : List UInt8} {k : Nat} (h : SkAt l k) : SkAt l (k + runB blankB (l.drop k)) ∧ Stops blankB (l.drop (k + runB blankB (l.drop k))) := by
  refine ⟨?_, by rw [← List.drop_drop]; exact runB_drop _ _⟩
  unfold SkAt at h ⊢
  rw [← h, ← List.drop_drop, ← skipM_blanks]
theorem SkAt.stays {l : List UInt8} {k : Nat} (hk : k ≤ l.length) (h : SkAt l k) (hs : Stops blankB (l.drop k)) (h2 : Lib.hasPrefix (l.drop k) [45, 45] = false) : l.length - (skipM false l).length = k := by
  rw [hasPrefix_two] at h2
  rw [← h, skipM_stays hs (by rintro ⟨h3, h4⟩; simp [h3, h4] at h2)]
  simp; omega
theorem SkAt.remark {l : List UInt8} {k : Nat} (h : SkAt l k) (h2 : Lib.hasPrefix (l.drop k) [45, 45] = true) : skipM true (l.drop k) = skipM false l ∧ (l.drop k).head? = some 45 := by
  rw [hasPrefix_two] at h2
  simp only [Bool.and_eq_true, beq_iff_eq] at h2
  exact ⟨by rw [← h, ← skipM_remark h2], h2.1⟩
theorem SkAt.last {l : List UInt8} {k : Nat} (h : SkAt l k) (h2 : Lib.hasPrefix (l.drop k) [45, 45] = true) (hn : Lib.indexByte (l.drop k) 10 < 0) : l.length - (skipM false l).length = l.length := by
  have hm : Lib.indexByte (l.drop k) 10 = -1 := by have := Lib.indexByte_ge (l.drop k) 10; omega
  have h3 := Lib.indexByte_none hm
  rw [← (h.remark h2).1, skipM_in_none]
  · simp
  · intro c hc e
    obtain ⟨j, hj⟩ := List.mem_iff_getElem?.1 hc
    exact h3 j (by rw [hj, e])
theorem SkAt.line {l : List UInt8} {k n : Nat} (h : SkAt l k) (h2 : Lib.hasPrefix (l.drop k) [45, 45] = true) (hn : Lib.indexByte (l.drop k) 10 = n) : SkAt l (k + n) ∧ k + n < l.length ∧ 1 ≤ n := by
  obtain ⟨h3, h4⟩ := Lib.indexByte_some hn
  obtain ⟨r1, r2⟩ := h.remark h2
  have hl := (List.getElem?_eq_some_iff.1 h3).1
  simp at hl
  refine ⟨?_, by omega, ?_⟩
  · unfold SkAt
    rw [← List.drop_drop, ← skipM_in n h3, r1]
    intro c hc e
    obtain ⟨j, hj⟩ := List.mem_iff_getElem?.1 hc
    rw [List.getElem?_take] at hj
    split at hj
    · rename_i hjn; exact h4 j hjn (by rw [hj, e])
    · cases hj
  · rcases Nat.eq_zero_or_pos n with rfl | h5
    · rw [List.head?_eq_getElem?] at r2
      rw [r2] at h3
      cases h3
    · exact h5

set_option maxHeartbeats 1000000 in
theorem tskip_any (l : List UInt8) (hl : l.length ≤ 1000000) (w : World) : Calls Tryz.prog 81 #[S l] w fun e w' => e = .returned (.int .i64 ((l.length - (skipM false l).length : Nat) : Int)) ∧ Bl w w' := by
  go_enter Tryz.func81, Tryz.ntmps81
  go_wp2_with fail
  go_loopw [3] (fun i wr => ∃ k : Nat, k ≤ l.length ∧ i = .int .i64 k ∧ Hid (SkAt l k) ∧ Bl w wr) (fun i _ => l.length - (intOf i).toNat)
  case atStart => exact ⟨0, by omega, rfl, rfl, Bl.refl w⟩
  case round =>
    obtain ⟨k, hk, rfl, HK, hB⟩ := hrel
    have htail := ext_tail l k
    have hr := runB_le blankB (l.drop k)
    have hr' : k + runB blankB (l.drop k) ≤ l.length := by simp at hr; omega
    have HB := Lib.hid (SkAt.blanks HK.out)
    go_wp2_with fail
    refine (trun_any set_blank (l.drop k) (by simp; omega) _).mono ?_
    rintro e w1 ⟨rfl, hb1⟩
    clear htail hr
    generalize runB blankB (l.drop k) = m at *
    have htail := ext_tail l (k + m)
    go_wp2_with fail
    refine (HasPrefix_L (l.drop (k + m)) [45, 45] _).mono ?_
    rintro e w' ⟨rfl, rfl⟩
    cases hp : Lib.hasPrefix (l.drop (k + m)) [45, 45]
    · have HP := Lib.hid hp
      clear hp
      go_wp2
      go_ret
      refine ⟨ret_int ?_, hB.call hb1⟩
      rw [SkAt.stays hr' HB.out.1 HB.out.2 HP.out]
      simp
    · have HP := Lib.hid hp
      clear hp
      go_wp2_with fail
      refine (SIndex_L (l.drop (k + m)) 10 _).mono ?_
      rintro e w' ⟨rfl, rfl⟩
      clear htail
      by_cases hn : Lib.indexByte (l.drop (k + m)) 10 < 0
      · have HL := Lib.hid (HB.out.1.last HP.out hn)
        generalize Lib.indexByte (l.drop (k + m)) 10 = n at *
        go_wp2
        go_ret
        exact ⟨ret_int (by rw [HL.out]), hB.call hb1⟩
      · obtain ⟨n, hn'⟩ : ∃ n : Nat, Lib.indexByte (l.drop (k + m)) 10 = n := ⟨(Lib.indexByte (l.drop (k + m)) 10).toNat, by omega⟩
        obtain ⟨q1, q2, q3⟩ := HB.out.1.line HP.out hn'
        have HQ := Lib.hid q1
        rw [hn']
        clear hn hn' q1
        go_wp2
        go_roundw
        case rel => exact ⟨k + m + n, by omega, by go_num, HQ.out, hB.call hb1⟩
        case measure => simp [intOf]; omega

end Go.Proofs.YtepkfkfedmbmnaaGreatDoor

namespace Go.Proofs.YtepkfkfedmbmnaaGreatDoor
open Go.RowKit
set_option maxRecDepth 100000

/-- The signs, the longest ahead. -/
def signL : List (List UInt8) := [[60, 62], [60, 61], [62, 61], [124, 124], [40], [41], [44], [46], [59], [42], [43], [45], [47], [37], [61], [60], [62]]
def signOf (l : List UInt8) : List UInt8 := (signL.find? fun x => Lib.hasPrefix l x).getD []

def sgnP (c : UInt8) (h : Option UInt8) : List UInt8 → Bool
  | [a] => c == a
  | [a, b] => c == a && h == some b
  | _ => false
theorem sgnP_is (c : UInt8) (r x : List UInt8) (hx : x ∈ signL) : Lib.hasPrefix (c :: r) x = sgnP c r.head? x := by
  have h1 : ∀ a, Lib.hasPrefix (c :: r) [a] = sgnP c r.head? [a] := fun a => by rw [hasPrefix_one]; simp [sgnP]
  have h2 : ∀ a b, Lib.hasPrefix (c :: r) [a, b] = sgnP c r.head? [a, b] := fun a b => by
    rw [hasPrefix_two]; simp [sgnP, List.head?_eq_getElem?]
  simp only [signL, List.mem_cons, List.mem_nil_iff, or_false] at hx
  rcases hx with rfl | rfl | rfl | rfl | rfl | rfl | rfl | rfl | rfl | rfl | rfl | rfl | rfl | rfl | rfl | rfl | rfl <;> first | exact h2 _ _ | exact h1 _
theorem find_congr {α : Type} {p q : α → Bool} : ∀ {l : List α}, (∀ x ∈ l, p x = q x) → l.find? p = l.find? q
  | [], _ => rfl
  | a :: l, h => by
    rw [List.find?_cons, List.find?_cons, h a (by simp), find_congr fun x hx => h x (by simp [hx])]
theorem signOf_length (c : UInt8) (r : List UInt8) : (signOf (c :: r)).length = slen c r.head? := by
  have e : signOf (c :: r) = (signL.find? (sgnP c r.head?)).getD [] := by
    unfold signOf
    rw [find_congr fun x hx => sgnP_is c r x hx]
  rw [e]
  generalize r.head? = h
  by_cases c60 : c = 60
  · subst c60
    by_cases h1 : h = some 62
    · subst h1; rfl
    by_cases h2 : h = some 61
    · subst h2; rfl
    · simp [signL, sgnP, slen, h1, h2]
  by_cases c62 : c = 62
  · subst c62
    by_cases h2 : h = some 61
    · subst h2; rfl
    · simp [signL, sgnP, slen, h2]
  by_cases c124 : c = 124
  · subst c124
    by_cases h2 : h = some 124
    · subst h2; rfl
    · simp [signL, sgnP, slen, h2]
  by_cases hm : c ∈ ([40, 41, 44, 46, 59, 42, 43, 45, 47, 37, 61] : List UInt8)
  · have hs : slen c h = 1 := by simp only [slen, if_neg c60, if_neg c62, if_neg c124, if_pos hm]
    rw [hs]
    simp only [List.mem_cons, List.mem_nil_iff, or_false] at hm
    rcases hm with rfl | rfl | rfl | rfl | rfl | rfl | rfl | rfl | rfl | rfl | rfl <;> simp [signL, sgnP]
  · have hs : slen c h = 0 := by simp only [slen, if_neg c60, if_neg c62, if_neg c124, if_neg hm]
    rw [hs]
    simp only [List.mem_cons, List.mem_nil_iff, or_false, not_or] at hm
    simp [signL, sgnP, c60, c62, c124, hm]

/-- How long a word is, where none begins: 0; none: it is too long. -/
def wlen (l : List UInt8) : Option Nat := if Lib.hasPrefix l [120, 39] = true ∨ runB letterB (l.take 1) = 0 then some 0 else if runB wordB l ≤ 30 then some (runB wordB l) else none
def vlen (l : List UInt8) : Option Nat := if Lib.hasPrefix l [39] = true then (qlen (l.drop 1)).map (1 + ·) else if Lib.hasPrefix l [120, 39] = true then (qlen (l.drop 2)).map (2 + ·)
  else if runB digitB l = 0 ∨ runB digitB l = l.length ∨ runB letterB ((l.drop (runB digitB l)).take 1) = 0 then some (runB digitB l) else none

def cut3 (l : List UInt8) : Option (Int × Nat) := match wlen l with
  | none => none
  | some (n + 1) => some (1, n + 1)
  | some 0 => match vlen l with
    | none => none
    | some (n + 1) => some (2, n + 1)
    | some 0 => if (signOf l).length = 0 then none else some (3, (signOf l).length)

theorem runB_take1 (p : UInt8 → Bool) (c : UInt8) (r : List UInt8) : runB p ((c :: r).take 1) = if p c then 1 else 0 := by
  simp [runB_cons, runB_nil]
theorem head_letter (l : List UInt8) : runB letterB (l.take 1) = 0 ↔ ¬ (l.head?.map letterB = some true) := by
  cases l with
  | nil => simp [runB_nil]
  | cons c r => rw [runB_take1]; cases h : letterB c <;> simp [h]

theorem cut3_is (c : UInt8) (r : List UInt8) : cut3 (c :: r) = cut1 (c :: r) := by
  rw [cut1_cons]
  have hx : Lib.hasPrefix (c :: r) [120, 39] = true ↔ c = 120 ∧ r.head? = some 39 := by
    rw [hasPrefix_two]; simp [List.head?_eq_getElem?]
  have hq : Lib.hasPrefix (c :: r) [39] = true ↔ c = 39 := by rw [hasPrefix_one]; simp
  by_cases hl : letterB c = true ∧ ¬ (c = 120 ∧ r.head? = some 39)
  · rw [if_pos hl]
    have hw : wlen (c :: r) = if runB wordB r + 1 ≤ 30 then some (runB wordB r + 1) else none := by
      have hno : ¬ (Lib.hasPrefix (c :: r) [120, 39] = true ∨ runB letterB ((c :: r).take 1) = 0) := by
        rw [hx, runB_take1, if_pos hl.1]
        rintro (h | h)
        · exact hl.2 h
        · omega
      have hrun : runB wordB (c :: r) = runB wordB r + 1 := by rw [runB_cons, if_pos (by simp [wordB, hl.1])]
      unfold wlen
      rw [if_neg hno, hrun]
    unfold cut3
    rw [hw]
    split <;> rename_i h <;> split at h <;> simp_all
  · rw [if_neg hl]
    have hw : wlen (c :: r) = some 0 := by
      unfold wlen
      rw [if_pos]
      rw [hx, runB_take1]
      by_cases h : letterB c = true
      · left
        by_cases h2 : c = 120 ∧ r.head? = some 39
        · exact h2
        · exact absurd ⟨h, h2⟩ hl
      · right; rw [if_neg h]
    unfold cut3
    rw [hw]
    simp only
    by_cases h39 : c = 39
    · rw [if_pos h39]
      have hv : vlen (c :: r) = (qlen r).map (1 + ·) := by unfold vlen; rw [if_pos (hq.2 h39)]; rfl
      rw [hv]
      cases hr : qlen r with
      | none => rfl
      | some k => simp [Nat.add_comm 1 k]
    · rw [if_neg h39]
      by_cases h120 : c = 120
      · rw [if_pos h120]
        have h2 : r.head? = some 39 := by
          by_cases h2 : r.head? = some 39
          · exact h2
          · exact absurd ⟨by rw [h120]; decide, fun h => h2 h.2⟩ hl
        have hv : vlen (c :: r) = (qlen (r.drop 1)).map (2 + ·) := by unfold vlen; rw [if_neg (by rw [hq]; exact h39), if_pos (hx.2 ⟨h120, h2⟩)]; rfl
        rw [hv]
        cases hr : qlen (r.drop 1) with
        | none => rfl
        | some k => simp [Nat.add_comm 2 k]
      · rw [if_neg h120]
        have hv : vlen (c :: r) = if runB digitB (c :: r) = 0 ∨ runB digitB (c :: r) = (c :: r).length ∨ runB letterB (((c :: r).drop (runB digitB (c :: r))).take 1) = 0 then some (runB digitB (c :: r)) else none := by
          unfold vlen; rw [if_neg (by rw [hq]; exact h39), if_neg (by rw [hx]; exact fun h => h120 h.1)]
        rw [hv]
        by_cases hd : digitB c = true
        · rw [if_pos hd]
          have e : runB digitB (c :: r) = runB digitB r + 1 := by rw [runB_cons, if_pos hd]
          rw [e, List.drop_succ_cons]
          by_cases hh : (r.drop (runB digitB r)).head?.map letterB = some true
          · rw [if_pos hh, if_neg]
            rintro (h | h | h)
            · omega
            · simp at h
              rw [h, List.drop_length] at hh
              simp at hh
            · exact (head_letter _).1 h hh
          · rw [if_neg hh, if_pos (.inr (.inr ((head_letter _).2 hh)))]
        · rw [if_neg hd]
          have e : runB digitB (c :: r) = 0 := by rw [runB_cons, if_neg hd]
          rw [e, if_pos (.inl rfl)]
          simp only
          rw [signOf_length]

/-- How a reading of so many bytes ends. -/
def endN (o : Option Nat) : Ending := match o with
  | some n => .returned (.int .i64 (n : Int))
  | none => .panicked [{ v := .iface 31 (.int .i64 250), recovered := false }]
theorem quoteAt_is (l : List UInt8) (n : Nat) : quoteAt l n = endN ((qlen (l.drop n)).map (n + ·)) := by
  unfold quoteAt endN
  cases qlen (l.drop n) <;> rfl
theorem endN_some {o : Option Nat} {n : Nat} (h : o = some n) : Ending.returned (.int .i64 (n : Int)) = endN o := by rw [h]; rfl
theorem endN_none {o : Option Nat} (h : o = none) : Ending.panicked [{ v := .iface 31 (.int .i64 250), recovered := false }] = endN o := by rw [h]; rfl

set_option maxHeartbeats 1000000 in
theorem tbegins1_any (l : List UInt8) (h1 : 1 ≤ l.length) (hl : l.length ≤ 1000000) (w : World) : Calls Tryz.prog 130 #[S l] w fun e w' => e = endN (wlen l) ∧ Bl w w' := by
  have hh := ext_head l 1
  go_enter Tryz.func130, Tryz.ntmps130
  go_wp2_with fail
  refine (HasPrefix_L l [120, 39] _).mono ?_
  rintro e w' ⟨rfl, rfl⟩
  cases hp : Lib.hasPrefix l [120, 39]
  · have HP := Lib.hid hp
    clear hp
    go_wp2_with fail
    refine (trun_any set_letter (l.take 1) (by simp; omega) _).mono ?_
    rintro e w1 ⟨rfl, hb1⟩
    clear hh
    by_cases h0 : runB letterB (l.take 1) = 0
    · have hb : (((runB letterB (l.take 1) : Nat) : Int) == 0) = true := by simp [h0]
      have HW : Hid (wlen l = some 0) := by show wlen l = some 0; unfold wlen; rw [if_pos (.inr h0)]
      clear h0
      go_wp2_with fail
      go_ret
      exact ⟨endN_some HW.out, hb1⟩
    · have hb : (((runB letterB (l.take 1) : Nat) : Int) == 0) = false := by simpa using h0
      have HW : Hid (wlen l = if runB wordB l ≤ 30 then some (runB wordB l) else none) := by show wlen l = _; unfold wlen; rw [if_neg (by rw [HP.out]; simpa using h0)]
      clear h0
      go_wp2_with fail
      refine (trun_any set_word l hl _).mono ?_
      rintro e w2 ⟨rfl, hb2⟩
      clear hb
      by_cases h30 : runB wordB l ≤ 30
      · have HW2 : Hid (wlen l = some (runB wordB l)) := by show wlen l = _; rw [HW.out, if_pos h30]
        have hb30 : decide (((runB wordB l : Nat) : Int) ≤ 30) = true := by simp; omega
        go_wp2_with (first | (go_at_call 80; (with_reducible refine (tmust_yes _ _).mono ?_); rintro e w' ⟨rfl, rfl⟩))
        go_ret
        exact ⟨endN_some HW2.out, hb1.call hb2⟩
      · have HW2 : Hid (wlen l = none) := by show wlen l = _; rw [HW.out, if_neg h30]
        have hb30 : decide (((runB wordB l : Nat) : Int) ≤ 30) = false := by simp; omega
        go_wp2_with (first | (go_at_call 80; (with_reducible refine (tmust_no _ _).mono ?_); rintro e w' ⟨rfl, rfl⟩))
        exact ⟨rfl, endN_none HW2.out, hb1.call hb2⟩
  · have HW : Hid (wlen l = some 0) := by show wlen l = some 0; unfold wlen; rw [if_pos (.inl hp)]
    clear hp
    go_wp2_with fail
    go_ret
    exact ⟨endN_some HW.out, Bl.refl _⟩

set_option maxHeartbeats 1000000 in
theorem tbegins2_any (l : List UInt8) (h1 : 1 ≤ l.length) (hl : l.length ≤ 1000000) (w : World) : Calls Tryz.prog 131 #[S l] w fun e w' => e = endN (vlen l) ∧ Bl w w' := by
  go_enter Tryz.func131, Tryz.ntmps131
  go_wp2_with fail
  refine (HasPrefix_L l [39] _).mono ?_
  rintro e w' ⟨rfl, rfl⟩
  cases hp : Lib.hasPrefix l [39]
  · have HP := Lib.hid hp
    clear hp
    go_wp2_with fail
    refine (HasPrefix_L l [120, 39] _).mono ?_
    rintro e w' ⟨rfl, rfl⟩
    cases hp2 : Lib.hasPrefix l [120, 39]
    · have HV : Hid (vlen l = if runB digitB l = 0 ∨ runB digitB l = l.length ∨ runB letterB ((l.drop (runB digitB l)).take 1) = 0 then some (runB digitB l) else none) := by
        show vlen l = _; unfold vlen; rw [if_neg (by rw [HP.out]; decide), if_neg (by rw [hp2]; decide)]
      clear hp2 HP
      go_wp2_with fail
      refine (trun_any set_digit l hl _).mono ?_
      rintro e w1 ⟨rfl, hb1⟩
      have hle := runB_le digitB l
      generalize runB digitB l = n at *
      by_cases h0 : n = 0
      · subst h0
        have HW : Hid (vlen l = some 0) := by show vlen l = _; rw [HV.out, if_pos (.inl rfl)]
        go_wp2_with (first | (go_at_call 80; (with_reducible refine (tmust_yes _ _).mono ?_); rintro e w' ⟨rfl, rfl⟩))
        go_ret
        exact ⟨endN_some HW.out, hb1⟩
      by_cases h2 : n = l.length
      · subst h2
        have hb0 : ((l.length : Int) == 0) = false := by simpa using h0
        have HW : Hid (vlen l = some l.length) := by show vlen l = _; rw [HV.out, if_pos (.inr (.inl rfl))]
        go_wp2_with (first | (go_at_call 80; (with_reducible refine (tmust_yes _ _).mono ?_); rintro e w' ⟨rfl, rfl⟩))
        go_ret
        exact ⟨endN_some HW.out, hb1⟩
      · have hb0 : ((n : Int) == 0) = false := by simpa using h0
        have hb2 : ((n : Int) == (l.length : Int)) = false := by simp; omega
        have hb2' : (n == l.length) = false := by simpa using h2
        have hlt : n < l.length := by omega
        have hcut := ext_one l n hlt
        have HT : Hid ((l.drop n).take 1 = [l[n]]) := by show (l.drop n).take 1 = [l[n]]; rw [List.drop_eq_getElem_cons hlt]; rfl
        go_wp2_with fail
        refine (trun_any set_letter [l[n]] (by simp) _).mono ?_
        rintro e w2 ⟨rfl, hb3⟩
        rw [← HT.out]
        by_cases hr : runB letterB ((l.drop n).take 1) = 0
        · have hb : (((runB letterB ((l.drop n).take 1) : Nat) : Int) == 0) = true := by simp [hr]
          have HW : Hid (vlen l = some n) := by show vlen l = _; rw [HV.out, if_pos (.inr (.inr hr))]
          clear hr hb0 hb2 hb2' hcut
          go_wp2_with (first | (go_at_call 80; (with_reducible refine (tmust_yes _ _).mono ?_); rintro e w' ⟨rfl, rfl⟩))
          go_ret
          exact ⟨endN_some HW.out, hb1.call hb3⟩
        · have hb : (((runB letterB ((l.drop n).take 1) : Nat) : Int) == 0) = false := by simpa using hr
          have HW : Hid (vlen l = none) := by
            show vlen l = _; rw [HV.out, if_neg]
            rintro (h | h | h)
            · exact h0 h
            · exact h2 h
            · exact hr h
          clear hr hb0 hb2 hb2' hcut
          go_wp2_with (first | (go_at_call 80; (with_reducible refine (tmust_no _ _).mono ?_); rintro e w' ⟨rfl, rfl⟩))
          exact ⟨rfl, endN_none HW.out, hb1.call hb3⟩
    · have HV : Hid (vlen l = (qlen (l.drop 2)).map (2 + ·)) := by show vlen l = _; unfold vlen; rw [if_neg (by rw [HP.out]; decide), if_pos hp2]
      have h2 : 2 ≤ l.length := by
        rw [hasPrefix_two] at hp2
        simp only [Bool.and_eq_true, beq_iff_eq] at hp2
        have := (List.getElem?_eq_some_iff.1 hp2.2).1
        omega
      clear hp2 HP
      go_wp2_with fail
      refine (tquoted_any l 2 h2 hl _).mono ?_
      rintro e w' ⟨rfl, rfl⟩
      rw [quoteAt_is, ← HV.out]
      cases hv : vlen l with
      | none => exact ⟨rfl, endN_none hv, Bl.refl _⟩
      | some k =>
        have HK := Lib.hid hv
        clear hv
        simp only [endN]
        go_wp2_with fail
        go_ret
        exact ⟨endN_some HK.out, Bl.refl _⟩
  · have HV : Hid (vlen l = (qlen (l.drop 1)).map (1 + ·)) := by show vlen l = _; unfold vlen; rw [if_pos hp]
    clear hp
    go_wp2_with fail
    refine (tquoted_any l 1 h1 hl _).mono ?_
    rintro e w' ⟨rfl, rfl⟩
    rw [quoteAt_is, ← HV.out]
    cases hv : vlen l with
    | none => exact ⟨rfl, endN_none hv, Bl.refl _⟩
    | some k =>
      have HK := Lib.hid hv
      clear hv
      simp only [endN]
      go_wp2_with fail
      go_ret
      exact ⟨endN_some HK.out, Bl.refl _⟩

end Go.Proofs.YtepkfkfedmbmnaaGreatDoor

namespace Go.Proofs.YtepkfkfedmbmnaaGreatDoor
open Go.RowKit Go.Shelf
set_option maxRecDepth 100000

theorem Bl.drewN (w : World) (q : Nat) : Bl w (w.drewN q) := ⟨rfl, rfl, rfl, Nat.le_refl _, fun _ _ => rfl⟩

def signC : Array Value := (signL.map fun x => S x).toArray

theorem tsigns_any (w : World) : Calls Tryz.prog 135 #[] w fun e w' => e = .returned (.slice (some ⟨w.heap.size, 0, none⟩) 17 17) ∧ w' = w.alloc (.cells signC 9) := by
  go_enter Tryz.func135, Tryz.ntmps135
  go_wp2
  go_ret
  exact ⟨rfl, rfl⟩

theorem tbegins31_any (x l : List UInt8) (B : Nat) (W : World) (hB : W.cell? ⟨B, 0, none⟩ = some (S l)) : Calls Tryz.prog 136 #[S x, .pointer (some ⟨B, 0, none⟩)] W fun e w' => e = .returned (.bool (Lib.hasPrefix l x)) ∧ W = w' := by
  go_enter Tryz.func136, Tryz.ntmps136
  go_wp2_with fail
  refine (HasPrefix_L l x _).mono ?_
  rintro e w' ⟨rfl, rfl⟩
  go_wp2
  go_ret
  exact ⟨rfl, rfl⟩
theorem enters_tbegins31 (args : Array Value) (w : World) : (callFunc 136 args).run Tryz.prog w = .ok (.enter 136 args) w := by
  simp [go_sem]

theorem idx_find (p : List UInt8 → Bool) (d : List UInt8) : ∀ (zs : List (List UInt8)) (i : Nat), (zs.find? p = none ∧ Lib.idxByFrom (fun _ y => p y) d zs i = -1) ∨ ∃ k, k < zs.length ∧ Lib.idxByFrom (fun _ y => p y) d zs i = ((i + k : Nat) : Int) ∧ zs.find? p = some zs[k]!
  | [], i => .inl ⟨rfl, rfl⟩
  | z :: zs, i => by
    by_cases hz : p z = true
    · exact .inr ⟨0, by simp, by simp [Lib.idxByFrom, hz], by simp [hz]⟩
    · rcases idx_find p d zs (i + 1) with ⟨h1, h2⟩ | ⟨k, hk, h1, h2⟩
      · exact .inl ⟨by simp [hz, h1], by simp [Lib.idxByFrom, hz, h2]⟩
      · exact .inr ⟨k + 1, by simp; omega, by simp only [Lib.idxByFrom, hz]; rw [h1]; simp; omega, by simp [hz, h2]⟩

set_option maxHeartbeats 1000000 in
theorem tfound_any (l : List UInt8) (b B : Nat) (w : World) (hc : ∀ j, j < signL.length → w.cell? ⟨b, 0 + j, none⟩ = some (S signL[j]!)) (hB : w.cell? ⟨B, 0, none⟩ = some (S l)) :
    Calls Tryz.prog 134 #[.slice (some ⟨b, 0, none⟩) 17 17, .func (.func 136) #[] #[.pointer (some ⟨B, 0, none⟩)]] w fun e w' => (∃ f, e = .returned (.tuple #[S (signOf l), .bool f])) ∧ Bl w w' := by
  have HC := Lib.hid hc
  clear hc
  have hp : PredAt Tryz.prog 136 #[.pointer (some ⟨B, 0, none⟩)] (fun x : List UInt8 => S x) (fun x => Lib.hasPrefix l x) w := fun W x hb =>
    (tbegins31_any x l B W (Bl.cell hb hB)).mono fun e w' ⟨he, hw⟩ => ⟨he, 0, hw.symm⟩
  have HP := Lib.hid hp
  clear hp
  go_enter Tryz.func134, Tryz.ntmps134
  go_wp2_with fail
  refine (Tryz.slices_IndexFunc (fun x : List UInt8 => S x) (fun x => Lib.hasPrefix l x) 136 #[.pointer (some ⟨B, 0, none⟩)] enters_tbegins31 b 0 17 17 signL _ HP.out (by decide) (by decide) HC.out).mono ?_
  rintro e w' ⟨rfl, q, rfl⟩
  rcases idx_find (fun x => Lib.hasPrefix l x) default signL 0 with ⟨h1, h2⟩ | ⟨k, hk, h1, h2⟩
  · rw [show Lib.idxBy (fun _ y => Lib.hasPrefix l y) (signL.take 17) default = -1 from h2]
    have HS : Hid (signOf l = []) := by show signOf l = []; unfold signOf; rw [h1]; rfl
    clear h1 h2
    go_wp2
    go_ret2
    exact ⟨⟨_, by rw [HS.out]; rfl⟩, Bl.drewN _ _⟩
  · rw [show Lib.idxBy (fun _ y => Lib.hasPrefix l y) (signL.take 17) default = ((k : Nat) : Int) by rw [show ((k : Nat) : Int) = ((0 + k : Nat) : Int) by simp]; exact h1]
    have hk17 : k < 17 := hk
    have HS : Hid (signOf l = signL[k]!) := by show signOf l = signL[k]!; unfold signOf; rw [h2]; rfl
    have hcell : (w.drewN q).cell? ⟨b, k, none⟩ = some (S signL[k]!) := by
      have := HC.out k hk
      rw [Nat.zero_add] at this
      exact this
    clear h1 h2 hk
    generalize signL[k]! = x at *
    go_wp2
    go_ret2
    exact ⟨⟨_, by rw [HS.out]; rfl⟩, Bl.drewN _ _⟩

theorem signC_get : ∀ j, j < 17 → signC[j]? = some (S signL[j]!)
  | 0, _ => rfl
  | 1, _ => rfl
  | 2, _ => rfl
  | 3, _ => rfl
  | 4, _ => rfl
  | 5, _ => rfl
  | 6, _ => rfl
  | 7, _ => rfl
  | 8, _ => rfl
  | 9, _ => rfl
  | 10, _ => rfl
  | 11, _ => rfl
  | 12, _ => rfl
  | 13, _ => rfl
  | 14, _ => rfl
  | 15, _ => rfl
  | 16, _ => rfl
  | n + 17, h => absurd h (by omega)
theorem signC_at (w : World) (b : Nat) (hb : b = w.heap.size) : ∀ j, j < signL.length → (w.alloc (.cells signC 9)).cell? ⟨b, 0 + j, none⟩ = some (S signL[j]!) := by
  intro j hj
  subst hb
  rw [Lib.cell_of_heap (heap_new w _), Nat.zero_add]
  exact signC_get j hj

set_option maxHeartbeats 1000000 in
theorem tbegins3_any (l : List UInt8) (_hl : l.length ≤ 1000000) (w : World) : Calls Tryz.prog 133 #[S l] w fun e w' => e = endN (some (signOf l).length) ∧ Bl w w' := by
  have hmf : ∀ (fn : Fn) (first cap : Array Value) (w : World), (Instr.makeFunc fn first cap).run Tryz.prog w = .ok (.func fn first cap) w := fun _ _ _ _ => rfl
  have HC := Lib.hid (signC_at (w.alloc (.cells #[S l] 9)) (w.heap.size + 1) (by simp))
  have HL : Hid (((w.alloc (.cells #[S l] 9)).alloc (.cells signC 9)).cell? ⟨w.heap.size, 0, none⟩ = some (S l)) := by
    show _ = _
    rw [Lib.cell_of_heap ((heap_old _ _ (by simp)).trans (heap_new w _))]
    rfl
  go_enter Tryz.func133, Tryz.ntmps133
  go_wp2_with fail
  refine (tsigns_any _).mono ?_
  rintro e w' ⟨rfl, rfl⟩
  go_wp2_with fail
  (with_reducible refine (tfound_any l (w.heap.size + 1) w.heap.size _ HC.out HL.out).mono ?_)
  rintro e w2 ⟨⟨f, rfl⟩, hb⟩
  go_wp2
  go_ret
  exact ⟨rfl, (((Bl.refl w).alloc _).alloc _).call hb⟩

abbrev bAll : Array MapEntry := #[lE 1 130 0, lE 2 131 1, lE 3 133 2]
def beginF (k : Int) : FuncId := if k = 1 then 130 else if k = 2 then 131 else 133
theorem bins0 (w : World) : (Instr.mapUpdate 153 (.map (some w.heap.size)) (.int .i64 1) (.func (.func 130) #[] #[])).run Tryz.prog (w.alloc (.map #[] 0)) = .ok () (w.alloc (.map #[lE 1 130 0] 1)) :=
  run_insert_int Tryz.underlying153 Tryz.underlying51 w #[] 0 1 _ rfl
theorem bins1 (w : World) : (Instr.mapUpdate 153 (.map (some w.heap.size)) (.int .i64 2) (.func (.func 131) #[] #[])).run Tryz.prog (w.alloc (.map #[lE 1 130 0] 1)) = .ok () (w.alloc (.map #[lE 1 130 0, lE 2 131 1] 2)) :=
  run_insert_int Tryz.underlying153 Tryz.underlying51 w #[lE 1 130 0] 1 2 _ rfl
theorem bins2 (w : World) : (Instr.mapUpdate 153 (.map (some w.heap.size)) (.int .i64 3) (.func (.func 133) #[] #[])).run Tryz.prog (w.alloc (.map #[lE 1 130 0, lE 2 131 1] 2)) = .ok () (w.alloc (.map bAll 3)) :=
  run_insert_int Tryz.underlying153 Tryz.underlying51 w #[lE 1 130 0, lE 2 131 1] 2 3 _ rfl
theorem tbegins_any (w : World) : Calls Tryz.prog 116 #[] w fun e w' => e = .returned (.map (some w.heap.size)) ∧ w' = w.alloc (.map bAll 3) := by
  have hmm := @run_makeMap Tryz.prog
  have h0 := bins0
  have h1 := bins1
  have h2 := bins2
  go_enter Tryz.func116, Tryz.ntmps116
  go_wp2
  go_ret
  exact ⟨rfl, rfl⟩
theorem look_begins {w : World} {r : Nat} (hb : w.heap[r]? = some (.map bAll 3)) {k : Int} (h0 : 1 ≤ k) (h4 : k ≤ 3) :
    (Instr.lookup 153 (.map (some r)) (.int .i64 k) false).run Tryz.prog w = .ok (.func (.func (beginF k)) #[] #[]) w := by
  have hk : k = 1 ∨ k = 2 ∨ k = 3 := by omega
  rcases hk with rfl | rfl | rfl
  · exact run_lookup_int Tryz.underlying153 Tryz.underlying51 hb (i := 0) rfl
  · exact run_lookup_int Tryz.underlying153 Tryz.underlying51 hb (i := 1) rfl
  · exact run_lookup_int Tryz.underlying153 Tryz.underlying51 hb (i := 2) rfl
theorem enters_beginF (k : Int) (args : Array Value) (w : World) : (callFunc (beginF k) args).run Tryz.prog w = .ok (.enter (beginF k) args) w := by
  unfold beginF
  split
  · simp [go_sem]
  split
  · simp [go_sem]
  · simp [go_sem]
def blen (k : Nat) (l : List UInt8) : Option Nat := if k = 1 then wlen l else if k = 2 then vlen l else some (signOf l).length
theorem beginF_any (k : Nat) (l : List UInt8) (h1 : 1 ≤ l.length) (hl : l.length ≤ 1000000) (hk : 1 ≤ k ∧ k ≤ 3) (w : World) : Calls Tryz.prog (beginF k) #[S l] w fun e w' => e = endN (blen k l) ∧ Bl w w' := by
  obtain rfl | rfl | rfl : k = 1 ∨ k = 2 ∨ k = 3 := by omega
  · exact tbegins1_any l h1 hl w
  · exact tbegins2_any l h1 hl w
  · exact tbegins3_any l hl w

end Go.Proofs.YtepkfkfedmbmnaaGreatDoor

namespace Go.Proofs.YtepkfkfedmbmnaaGreatDoor
open Go.RowKit
set_option maxRecDepth 100000

/-- A value's text, read. -/
def parseO (s : List UInt8) : Option (Int × Int × List UInt8) := if (parseV s).2.2.2 = 0 then some ((parseV s).1, (parseV s).2.1, (parseV s).2.2.1) else none
/-- A token as a value. -/
abbrev TV (k pos : Int) (t : List UInt8) (a b : Int) (c : List UInt8) : Value := .agg #[.int .i64 k, .int .i64 pos, S t, .int .i64 a, .int .i64 b, S c]
def oneEnd (l : List UInt8) (n : Nat) : Ending := match one1 parseO (l.drop n) with
  | some x => .returned (TV x.1 n ((l.drop n).take x.2.1) x.2.2.1 x.2.2.2.1 x.2.2.2.2)
  | none => .panicked [{ v := .iface 31 (.int .i64 250), recovered := false }]

/-- What has been tried ahead of kind k. -/
def Tried (l : List UInt8) (k : Nat) : Prop := 1 ≤ k ∧ k ≤ 4 ∧ ∀ j, 1 ≤ j → j < k → blen j l = some 0

theorem cons_of {s : List UInt8} (h : 1 ≤ s.length) : ∃ c r, s = c :: r := by
  cases s with
  | nil => simp at h
  | cons c r => exact ⟨c, r, rfl⟩
theorem Tried.hit {s : List UInt8} (hs : 1 ≤ s.length) {k m : Nat} (h : Tried s k) (hk : k < 4) (hm : blen k s = some (m + 1)) : cut1 s = some ((k : Int), m + 1) := by
  obtain ⟨c, r, rfl⟩ := cons_of hs
  rw [← cut3_is]
  obtain ⟨h1, _, h2⟩ := h
  obtain rfl | rfl | rfl : k = 1 ∨ k = 2 ∨ k = 3 := by omega
  · have hm : wlen (c :: r) = some (m + 1) := hm
    unfold cut3; rw [hm]; rfl
  · have hw : wlen (c :: r) = some 0 := h2 1 (by omega) (by omega)
    have hm : vlen (c :: r) = some (m + 1) := hm
    unfold cut3; rw [hw, hm]; rfl
  · have hw : wlen (c :: r) = some 0 := h2 1 (by omega) (by omega)
    have hv : vlen (c :: r) = some 0 := h2 2 (by omega) (by omega)
    have hm : some (signOf (c :: r)).length = some (m + 1) := hm
    injection hm with hm
    unfold cut3; rw [hw, hv]
    simp only
    rw [hm, if_neg (by omega)]; rfl
theorem Tried.bad {s : List UInt8} (hs : 1 ≤ s.length) {k : Nat} (h : Tried s k) (hk : k < 4) (hm : blen k s = none) : cut1 s = none := by
  obtain ⟨c, r, rfl⟩ := cons_of hs
  rw [← cut3_is]
  obtain ⟨h1, _, h2⟩ := h
  obtain rfl | rfl | rfl : k = 1 ∨ k = 2 ∨ k = 3 := by omega
  · have hm : wlen (c :: r) = none := hm
    unfold cut3; rw [hm]
  · have hw : wlen (c :: r) = some 0 := h2 1 (by omega) (by omega)
    have hm : vlen (c :: r) = none := hm
    unfold cut3; rw [hw, hm]
  · cases hm
theorem Tried.all {s : List UInt8} (hs : 1 ≤ s.length) (h : Tried s 4) : cut1 s = none := by
  obtain ⟨c, r, rfl⟩ := cons_of hs
  rw [← cut3_is]
  obtain ⟨h1, _, h2⟩ := h
  have hw : wlen (c :: r) = some 0 := h2 1 (by omega) (by omega)
  have hv : vlen (c :: r) = some 0 := h2 2 (by omega) (by omega)
  have hm : some (signOf (c :: r)).length = some 0 := h2 3 (by omega) (by omega)
  injection hm with hm
  unfold cut3; rw [hw, hv]
  simp only
  rw [hm, if_pos rfl]
theorem Tried.next {s : List UInt8} {k : Nat} (h : Tried s k) (hk : k < 4) (hm : blen k s = some 0) : Tried s (k + 1) :=
  ⟨by omega, by omega, fun j h1 h2 => by
    by_cases e : j = k
    · rw [e]; exact hm
    · exact h.2.2 j h1 (by omega)⟩

theorem oneEnd_none {l s : List UInt8} {n : Nat} (hs : l.drop n = s) (h : cut1 s = none) : Ending.panicked [{ v := .iface 31 (.int .i64 250), recovered := false }] = oneEnd l n := by
  unfold oneEnd one1; rw [hs, h]; rfl
theorem oneEnd_plain {l s : List UInt8} {n m : Nat} {k : Int} (hs : l.drop n = s) (h : cut1 s = some (k, m)) (hk : k ≠ 2) : Ending.returned (TV k n (s.take m) 0 0 []) = oneEnd l n := by
  unfold oneEnd one1 valOf; rw [hs, h]; simp [hk]
theorem oneEnd_value {l s : List UInt8} {n m : Nat} (hs : l.drop n = s) (h : cut1 s = some (2, m)) (he : (parseV (s.take m)).2.2.2 = 0) : Ending.returned (TV 2 n (s.take m) (parseV (s.take m)).1 (parseV (s.take m)).2.1 (parseV (s.take m)).2.2.1) = oneEnd l n := by
  unfold oneEnd one1 valOf parseO; rw [hs, h]; simp [he]
theorem oneEnd_bad {l s : List UInt8} {n m : Nat} (hs : l.drop n = s) (h : cut1 s = some (2, m)) (he : ¬ (parseV (s.take m)).2.2.2 = 0) : Ending.panicked [{ v := .iface 31 (.int .i64 250), recovered := false }] = oneEnd l n := by
  unfold oneEnd one1 valOf parseO; rw [hs, h]; simp [he]

theorem heap_set6 (w : World) (b : Nat) (x0 x1 x2 x3 x4 x5 y0 y1 y2 y3 y4 y5 : Value) (t : TypeId) (h : w.heap[b]? = some (.cells #[x0, x1, x2, x3, x4, x5] t (0, 0))) :
    ((((((w.setCell ⟨b, 0, none⟩ y0).setCell ⟨b, 1, none⟩ y1).setCell ⟨b, 2, none⟩ y2).setCell ⟨b, 3, none⟩ y3).setCell ⟨b, 4, none⟩ y4).setCell ⟨b, 5, none⟩ y5).heap[b]? = some (.cells #[y0, y1, y2, y3, y4, y5] t (0, 0)) := by
  simp [World.setCell, Array.getElem?_modify, h]
theorem heap_set345 (w : World) (b : Nat) (x0 x1 x2 x3 x4 x5 y3 y4 y5 : Value) (t : TypeId) (h : w.heap[b]? = some (.cells #[x0, x1, x2, x3, x4, x5] t (0, 0))) :
    (((w.setCell ⟨b, 3, none⟩ y3).setCell ⟨b, 4, none⟩ y4).setCell ⟨b, 5, none⟩ y5).heap[b]? = some (.cells #[x0, x1, x2, y3, y4, y5] t (0, 0)) := by
  simp [World.setCell, Array.getElem?_modify, h]
theorem bl_set6 {w W : World} {b : Nat} (h : Bl w W) (hb : w.heap.size ≤ b) (y0 y1 y2 y3 y4 y5 : Value) :
    Bl w ((((((W.setCell ⟨b, 0, none⟩ y0).setCell ⟨b, 1, none⟩ y1).setCell ⟨b, 2, none⟩ y2).setCell ⟨b, 3, none⟩ y3).setCell ⟨b, 4, none⟩ y4).setCell ⟨b, 5, none⟩ y5) :=
  (((((h.set hb _).set hb _).set hb _).set hb _).set hb _).set hb _
/-- A block of six cells, cell by cell. -/
theorem cells6 {W : World} {b : Nat} {x0 x1 x2 x3 x4 x5 : Value} {t : TypeId} (h : W.heap[b]? = some (.cells #[x0, x1, x2, x3, x4, x5] t (0, 0))) :
    (W.cell? ⟨b, 0, none⟩ = some x0 ∧ W.cell? ⟨b, 1, none⟩ = some x1 ∧ W.cell? ⟨b, 2, none⟩ = some x2 ∧ W.cell? ⟨b, 3, none⟩ = some x3 ∧ W.cell? ⟨b, 4, none⟩ = some x4 ∧ W.cell? ⟨b, 5, none⟩ = some x5) ∧
    (W.frozen? ⟨b, 0, none⟩ = false ∧ W.frozen? ⟨b, 1, none⟩ = false ∧ W.frozen? ⟨b, 2, none⟩ = false ∧ W.frozen? ⟨b, 3, none⟩ = false ∧ W.frozen? ⟨b, 4, none⟩ = false ∧ W.frozen? ⟨b, 5, none⟩ = false) :=
  ⟨⟨by rw [Lib.cell_of_heap h]; rfl, by rw [Lib.cell_of_heap h]; rfl, by rw [Lib.cell_of_heap h]; rfl, by rw [Lib.cell_of_heap h]; rfl, by rw [Lib.cell_of_heap h]; rfl, by rw [Lib.cell_of_heap h]; rfl⟩,
    ⟨Lib.frozen_of_heap h 0, Lib.frozen_of_heap h 1, Lib.frozen_of_heap h 2, Lib.frozen_of_heap h 3, Lib.frozen_of_heap h 4, Lib.frozen_of_heap h 5⟩⟩

def TonePost (l : List UInt8) (n : Nat) (w : World) (e : Ending) (w' : World) : Prop := e = oneEnd l n ∧ Bl w w'
theorem tone_ret {a : Act} {W : World} {b : Nat} {k p x y : Int} {t z : List UInt8} {l : List UInt8} {n : Nat} {w : World} (h2 : a.tmps[4]? = some (.pointer (some ⟨b, 0, none⟩))) (hd : a.defers = [])
    (hW : W.heap[b]? = some (.cells #[.int .i64 k, .int .i64 p, S t, .int .i64 x, .int .i64 y, S z] 53 (0, 0))) (hE : Ending.returned (TV k p t x y z) = oneEnd l n) (hb : Bl w W) : bodyPost Tryz.prog Tryz.f82 (TonePost l n w) .ret a W := by
  obtain ⟨⟨q0, q1, q2, q3, q4, q5⟩, -⟩ := cells6 hW
  obtain ⟨t, d⟩ := a
  refine bodyPost_ret (v := TV k p _ x y z) ?_ hd ⟨hE, hb⟩
  simp [results, Tryz.results82, go_sem, q0, q1, q2, q3, q4, q5, h2]

set_option maxHeartbeats 2000000 in
theorem tone_any (l : List UInt8) (n : Nat) (hn : n < l.length) (hl : l.length ≤ 10000) (w : World) (hG : Glob w) : Calls Tryz.prog 82 #[S l, .int .i64 n] w (TonePost l n w) := by
  have HG := Lib.hid hG
  clear hG
  have htail := ext_tail l n
  go_enter Tryz.func82, Tryz.ntmps82
  go_wp2_with fail
  clear htail
  generalize hs : l.drop n = s at *
  have hsl : 1 ≤ s.length ∧ s.length ≤ 10000 := by rw [← hs]; simp; omega
  have HSl := Lib.hid hs
  clear hs
  go_loopw [6] (fun i wr => ∃ k : Nat, 1 ≤ k ∧ k ≤ 4 ∧ i = .int .i64 k ∧ Hid (Tried s k) ∧ Bl w wr ∧ wr.heap[w.heap.size]? = some (.cells #[.int .i64 0, .int .i64 0, .string ⟨#[]⟩, .int .i64 0, .int .i64 0, .string ⟨#[]⟩] 53 (0, 0))) (fun i _ => 4 - (intOf i).toNat)
  case atStart => exact ⟨1, by omega, by omega, rfl, ⟨by omega, by omega, fun j h1 h2 => by omega⟩, (Bl.refl w).alloc _, heap_new w _⟩
  case round =>
    obtain ⟨k, hk1, hk4, rfl, HT, hB, hA⟩ := hrel
    by_cases hk : k < 4
    · have hlook : (Instr.lookup 153 (.map (some wr.heap.size)) (.int .i64 (k : Int)) false).run Tryz.prog (wr.alloc (.map bAll 3)) = .ok (.func (.func (beginF k)) #[] #[]) (wr.alloc (.map bAll 3)) :=
        look_begins (heap_new wr (.map bAll 3)) (by omega) (by omega)
      have hen := enters_beginF k
      go_wp2_with fail
      (with_reducible refine (tbegins_any _).mono ?_)
      rintro e w1 ⟨rfl, rfl⟩
      go_wp2_with fail
      (with_reducible refine (beginF_any k s hsl.1 (by omega) (by omega) _).mono ?_)
      rintro e w2 ⟨rfl, hb2⟩
      have hwr : w.heap.size < wr.heap.size := (Array.getElem?_eq_some_iff.1 hA).1
      have hb3 : Bl wr w2 := ((Bl.refl wr).alloc _).call hb2
      have hA2 := (hb3.block _ hwr).trans hA
      have hB2 := hB.call hb3
      have hG2 := HG.out.bl hB2
      have HG2 := Lib.hid hG2
      clear hlook hen hb2 hb3 hA hB hG2
      cases hbl : blen k s with
      | none => exact ⟨rfl, oneEnd_none HSl.out (HT.out.bad hsl.1 hk hbl), hB2⟩
      | some m =>
        simp only [endN]
        by_cases hm0 : m = 0
        · subst hm0
          have HN := Lib.hid (HT.out.next hk hbl)
          clear hbl
          go_wp2
          go_roundw
          case rel => exact ⟨k + 1, by omega, by omega, by go_num, HN.out, hB2, hA2⟩
          case measure => simp [intOf]; omega
        · have hmb : ((m : Int) == 0) = false := by simpa using hm0
          have hcut : cut1 s = some ((k : Int), m) := by
            obtain ⟨j, rfl⟩ : ∃ j, m = j + 1 := ⟨m - 1, by omega⟩
            exact HT.out.hit hsl.1 hk hbl
          have hml := (cut1_le hcut).2.1
          have HCut := Lib.hid hcut
          clear hbl hcut hm0
          have hhead := ext_head s m
          have hz2 : w.heap.size < w2.heap.size := (Array.getElem?_eq_some_iff.1 hA2).1
          by_cases hk2 : k = 2
          · subst hk2
            have hBt : Bl w2 (w2.alloc (.cells #[.int .i64 2, .int .i64 (n : Int), S (s.take m), .int .i64 0, .int .i64 0, .string ⟨#[]⟩] 53)) := (Bl.refl w2).alloc _
            have hG3 := HG2.out.bl hBt
            have hT3 := heap_new w2 (.cells #[.int .i64 2, .int .i64 (n : Int), S (s.take m), .int .i64 0, .int .i64 0, .string ⟨#[]⟩] 53)
            have hlt3 : (s.take m).length ≤ 10000 := by simp; omega
            go_wp2_with fail
            (with_reducible refine (Parse_any (s.take m) hlt3 _ hG3).mono ?_)
            rintro e w3 ⟨rfl, hb3⟩
            have hT4 := (hb3.block _ (Array.getElem?_eq_some_iff.1 hT3).1).trans hT3
            have hbt := hBt.call hb3
            have hA4 := (hbt.block _ hz2).trans hA2
            have hB4 := hB2.call hbt
            clear hT3 hb3 hBt hbt hG3 hA2 hB2
            have hne : w2.heap.size ≠ w.heap.size := by omega
            generalize w2.heap.size = b8 at *
            have HV : Hid ((parseV (s.take m)).2.2.2 = 0 → Ending.returned (TV 2 n (s.take m) (parseV (s.take m)).1 (parseV (s.take m)).2.1 (parseV (s.take m)).2.2.1) = oneEnd l n) := oneEnd_value HSl.out HCut.out
            have HX : Hid (¬ (parseV (s.take m)).2.2.2 = 0 → Ending.panicked [{ v := .iface 31 (.int .i64 250), recovered := false }] = oneEnd l n) := oneEnd_bad HSl.out HCut.out
            generalize parseV (s.take m) = pv at *
            obtain ⟨p1, p2, p3, pe⟩ := pv
            simp only at HV HX ⊢
            by_cases hpe : pe = 0
            · subst hpe
              have HV2 := Lib.hid (HV.out rfl)
              clear HV HX
              obtain ⟨⟨c0, c1, c2, c3, c4, c5⟩, ⟨f0, f1, f2, f3, f4, f5⟩⟩ := cells6 hA4
              obtain ⟨⟨d0, d1, d2, d3, d4, d5⟩, ⟨g0, g1, g2, g3, g4, g5⟩⟩ := cells6 hT4
              have hlt8 : b8 < w3.heap.size := (Array.getElem?_eq_some_iff.1 hT4).1
              have hltA : w.heap.size < w3.heap.size := by omega
              go_wp2_with (first | (go_at_call 80; (with_reducible refine (tmust_yes _ _).mono ?_); rintro e w' ⟨rfl, rfl⟩))
              clear c0 c1 c2 c3 c4 c5 f0 f1 f2 f3 f4 f5 d0 d1 d2 d3 d4 d5 g0 g1 g2 g3 g4 g5
              have hA5 : (((w3.setCell ⟨b8, 3, none⟩ (.int .i64 p1)).setCell ⟨b8, 4, none⟩ (.int .i64 p2)).setCell ⟨b8, 5, none⟩ (.string ⟨p3.toArray⟩)).heap[w.heap.size]? = _ :=
                (heap_set_other _ ⟨b8, 5, none⟩ _ _ (by simp; omega)).trans ((heap_set_other _ ⟨b8, 4, none⟩ _ _ (by simp; omega)).trans ((heap_set_other _ ⟨b8, 3, none⟩ _ _ (by simp; omega)).trans hA4))
              have hB5 : Bl w (((w3.setCell ⟨b8, 3, none⟩ (.int .i64 p1)).setCell ⟨b8, 4, none⟩ (.int .i64 p2)).setCell ⟨b8, 5, none⟩ (.string ⟨p3.toArray⟩)) := ((hB4.set (by simp; omega) _).set (by simp; omega) _).set (by simp; omega) _
              generalize ((w3.setCell ⟨b8, 3, none⟩ (.int .i64 p1)).setCell ⟨b8, 4, none⟩ (.int .i64 p2)).setCell ⟨b8, 5, none⟩ (.string ⟨p3.toArray⟩) = W5 at *
              have hS6 := heap_set6 W5 w.heap.size _ _ _ _ _ _ (.int .i64 2) (.int .i64 (n : Int)) (.string ⟨(s.take m).toArray⟩) (.int .i64 p1) (.int .i64 p2) (.string ⟨p3.toArray⟩) 53 hA5
              have hB6 := bl_set6 hB5 (Nat.le_refl w.heap.size) (.int .i64 2) (.int .i64 (n : Int)) (.string ⟨(s.take m).toArray⟩) (.int .i64 p1) (.int .i64 p2) (.string ⟨p3.toArray⟩)
              generalize (((((W5.setCell ⟨w.heap.size, 0, none⟩ (.int .i64 2)).setCell ⟨w.heap.size, 1, none⟩ (.int .i64 (n : Int))).setCell ⟨w.heap.size, 2, none⟩ (.string ⟨(s.take m).toArray⟩)).setCell ⟨w.heap.size, 3, none⟩ (.int .i64 p1)).setCell ⟨w.heap.size, 4, none⟩ (.int .i64 p2)).setCell ⟨w.heap.size, 5, none⟩ (.string ⟨p3.toArray⟩) = W6 at *
              exact tone_ret (b := w.heap.size) rfl rfl ((heap_old W6 _ (Array.getElem?_eq_some_iff.1 hS6).1).trans hS6) HV2.out (hB6.alloc _)
            · have hpb : (pe == 0) = false := by simpa using hpe
              have HX2 := Lib.hid (HX.out hpe)
              clear HV HX
              go_wp2_with (first | (go_at_call 80; (with_reducible refine (tmust_no _ _).mono ?_); rintro e w' ⟨rfl, rfl⟩))
              exact ⟨rfl, HX2.out, hB4.alloc _⟩
          · have hkb : ((k : Int) == 2) = false := by simp; omega
            have HK2 : Hid ((k : Int) ≠ 2) := by show (k : Int) ≠ 2; omega
            clear hk2
            obtain ⟨⟨c0, c1, c2, c3, c4, c5⟩, ⟨f0, f1, f2, f3, f4, f5⟩⟩ := cells6 hA2
            go_wp2_with fail
            have hS6 := heap_set6 w2 w.heap.size _ _ _ _ _ _ (.int .i64 (k : Int)) (.int .i64 (n : Int)) (.string ⟨(s.take m).toArray⟩) (.int .i64 0) (.int .i64 0) (.string ⟨#[]⟩) 53 hA2
            have hB6 := bl_set6 hB2 (Nat.le_refl w.heap.size) (.int .i64 (k : Int)) (.int .i64 (n : Int)) (.string ⟨(s.take m).toArray⟩) (.int .i64 0) (.int .i64 0) (.string ⟨#[]⟩)
            generalize (((((w2.setCell ⟨w.heap.size, 0, none⟩ (.int .i64 (k : Int))).setCell ⟨w.heap.size, 1, none⟩ (.int .i64 (n : Int))).setCell ⟨w.heap.size, 2, none⟩ (.string ⟨(s.take m).toArray⟩)).setCell ⟨w.heap.size, 3, none⟩ (.int .i64 0)).setCell ⟨w.heap.size, 4, none⟩ (.int .i64 0)).setCell ⟨w.heap.size, 5, none⟩ (.string ⟨#[]⟩) = W6 at *
            exact tone_ret (b := w.heap.size) rfl rfl ((heap_old W6 _ (Array.getElem?_eq_some_iff.1 hS6).1).trans hS6) (oneEnd_plain HSl.out HCut.out HK2.out) (hB6.alloc _)
    · obtain rfl : k = 4 := by omega
      go_wp2
      exact ⟨rfl, oneEnd_none HSl.out (HT.out.all hsl.1), hB⟩

end Go.Proofs.YtepkfkfedmbmnaaGreatDoor

namespace Go.Proofs.YtepkfkfedmbmnaaGreatDoor
open Go.RowKit
set_option maxRecDepth 100000

theorem tcaught_idle (p : Addr) (w : World) :
    CallsD Tryz.prog 79 #[.pointer (some p)] .returning w fun e u' w' => e = .returned (.tuple #[]) ∧ u' = .returning ∧ w = w' := by
  refine callsD_of_wpS Tryz.func79 rfl fun c₀ cs hu => ?_
  apply wpS_seq
  apply wpS_region
  simp [wpOpsS, go_sem, recoverD, hu, Tryz.ntmps79, Exit.thenS]
  refine wpS_of_wp ?_
  go_wp2
  cases c₀
  simp_all [bodyPostS, results, Tryz.results79]

set_option maxHeartbeats 400000 in
theorem tcaught_panic (p : Addr) (x n : Int) (w : World) (hc : w.cell? p = some (.int .i64 x)) (hz : w.frozen? p = false) :
    CallsD Tryz.prog 79 #[.pointer (some p)] (.panicking [{ v := .iface 31 (.int .i64 n), recovered := false }]) w fun e u' w' =>
      e = .returned (.tuple #[]) ∧ u' = .panicking [{ v := .iface 31 (.int .i64 n), recovered := true }] ∧ w' = w.setCell p (.int .i64 n) := by
  refine callsD_of_wpS Tryz.func79 rfl fun c₀ cs hu => ?_
  apply wpS_seq
  apply wpS_region
  simp [wpOpsS, go_sem, recoverD, hu, Tryz.ntmps79, Exit.thenS]
  refine wpS_of_wp ?_
  have hta : ∀ w, (Instr.typeAssert (.iface 31 (.int .i64 n)) 20 31 false).run Tryz.prog w = .ok (.int .i64 n) w := fun _ => by kernel_rfl
  rw [show ∀ a x : Value, #[a] ++ (((Array.replicate 9 undef).setIfInBounds 2 x).setIfInBounds 1 x) = #[a, undef, x, x, undef, undef, undef, undef, undef, undef] from fun _ _ => rfl]
  go_wp2_with fail
  cases c₀
  simp_all [bodyPostS, results, Tryz.results79]

def tokCells (x : Tok) : List Value := [.int .i64 x.k, .int .i64 x.pos, S x.t, .int .i64 x.v.1, .int .i64 x.v.2.1, S x.v.2.2]
def rowOf (l : List Tok) : List Value := l.flatMap tokCells
theorem rowOf_length (l : List Tok) : (rowOf l).length = l.length * 6 := by
  unfold rowOf; induction l with
  | nil => rfl
  | cons a l ih => simp [tokCells] at ih ⊢; omega
theorem rowOf_snoc (l : List Tok) (x : Tok) : rowOf (l ++ [x]) = rowOf l ++ tokCells x := by simp [rowOf]
theorem infoTok : (Tryz.prog.info? 53).map (fun i => (i.zero, i.size, i.bytes)) = some (some (.agg #[.int .i64 0, .int .i64 0, .string ⟨#[]⟩, .int .i64 0, .int .i64 0, .string ⟨#[]⟩]), 6, 64) := by kernel_rfl


theorem ownsRow_bl {W W' : World} (hb : Bl W W') {base : Nat} {e : TypeId} {size n : Nat} {v : Value} {xs : List Value} (h : W.ownsRow base e size v n xs) : W'.ownsRow base e size v n xs := by
  refine ⟨h.1, ?_⟩
  rcases h.2 with h0 | ⟨g, cap, cur, hv, hg, hh, r⟩
  · exact .inl h0
  · exact .inr ⟨g, cap, cur, hv, hg, (hb.block g (Array.getElem?_eq_some_iff.1 hh).1).trans hh, r⟩

theorem own_slice {W : World} {base : Nat} {e : TypeId} {size : Nat} {v : Value} {k : Nat} {xs : List Value} (h : W.ownsRow base e size v (k + 1) xs) : ∃ g cap, v = .slice (some ⟨g, 0, none⟩) (k + 1) cap := by
  rcases h.2 with ⟨_, h0⟩ | ⟨g, cap, _, rfl, _⟩
  · omega
  · exact ⟨g, cap, rfl⟩

def endTok (N : Nat) : Tok := ⟨4, N, [], (0, 0, [])⟩
/-- The tokens of a text. -/
def toksO (l : List UInt8) : Option (List Tok) := toks parseO l.length l
def allErr (l : List UInt8) : Int := if 4000 < l.length then 3 else if toksO l = none then 250 else 0

/-- Up to place k the tokens acc have been read. -/
def RdAt (l : List UInt8) (k : Nat) (acc : List Tok) : Prop := k ≤ l.length ∧ acc.length ≤ k ∧ skipM false (l.drop k) = l.drop k ∧ toksO l = (toks parseO l.length (l.drop k)).map (acc ++ ·)
theorem skip_drop (l : List UInt8) : l.drop (l.length - (skipM false l).length) = skipM false l := (skipM_suffix false l).symm
theorem RdAt.start (l : List UInt8) : RdAt l (l.length - (skipM false l).length) [] := by
  refine ⟨by omega, by simp, by rw [skip_drop, skipM_idem], ?_⟩
  rw [skip_drop, toks_skip l.length (skipM false l) l (skipM_idem _ _)]
  unfold toksO
  cases toks parseO l.length l <;> simp
theorem RdAt.bad {l : List UInt8} {k : Nat} {acc : List Tok} (h : RdAt l k acc) (hk : k < l.length) (h1 : one1 parseO (l.drop k) = none) : toksO l = none := by
  rw [h.2.2.2, toks_eq, h.2.2.1, if_neg (by simp; omega), h1]
  rfl
theorem RdAt.done {l : List UInt8} {acc : List Tok} (h : RdAt l l.length acc) : toksO l = some acc := by
  rw [h.2.2.2, List.drop_length, toks_nil]
  simp
def tokAt (l : List UInt8) (k : Nat) (x : Int × Nat × (Int × Int × List UInt8)) : Tok := ⟨x.1, k, (l.drop k).take x.2.1, x.2.2⟩
theorem RdAt.next {l : List UInt8} {k : Nat} {acc : List Tok} (h : RdAt l k acc) (hk : k < l.length) {x : Int × Nat × (Int × Int × List UInt8)} (h1 : one1 parseO (l.drop k) = some x) :
    RdAt l (k + x.2.1 + ((l.drop (k + x.2.1)).length - (skipM false (l.drop (k + x.2.1))).length)) (acc ++ [tokAt l k x]) := by
  have hle := one1_le h1
  have hkl := hle.2.1
  simp at hkl
  have e1 : l.drop (k + x.2.1 + ((l.drop (k + x.2.1)).length - (skipM false (l.drop (k + x.2.1))).length)) = skipM false (l.drop (k + x.2.1)) := by
    rw [← List.drop_drop, skip_drop]
  have hsl := skipM_le false (l.drop (k + x.2.1))
  refine ⟨by simp at hsl ⊢; omega, by have := h.2.1; simp; omega, by rw [e1, skipM_idem], ?_⟩
  rw [e1, toks_skip l.length (skipM false (l.drop (k + x.2.1))) (l.drop (k + x.2.1)) (skipM_idem _ _), h.2.2.2, toks_eq, h.2.2.1, if_neg (by simp; omega), h1]
  simp only [Option.bind_some, List.drop_drop]
  have e2 : l.length - (l.drop k).length = k := by simp; omega
  rw [e2]
  cases toks parseO l.length (l.drop (k + x.2.1)) <;> simp [tokAt]

def ReadPost (l : List UInt8) (w : World) (e : Ending) (w' : World) : Prop :=
  ∃ v, e = .returned (.tuple #[v, .int .i64 (allErr l)]) ∧ Bl w w' ∧ (∀ ts, allErr l = 0 → toksO l = some ts → w'.ownsRow w.heap.size 53 6 v (ts.length + 1) (rowOf (ts ++ [endTok l.length])))

set_option maxHeartbeats 1000000 in
theorem tread_long (l : List UInt8) (h : 4000 < l.length) (hm : l.length ≤ 9223372036854775807) (w : World) : Calls Tryz.prog 51 #[S l] w (ReadPost l w) := by
  have HE : Hid (allErr l = 3) := by show allErr l = 3; unfold allErr; rw [if_pos h]
  have hb4 : decide ((l.length : Int) ≤ 4000) = false := by simp; omega
  go_enter_defers Tryz.func51, Tryz.ntmps51
  go_wp2_with (first | (go_at_call 80; (with_reducible refine (tmust_no _ _).mono ?_); rintro e w' ⟨rfl, rfl⟩))
  refine leaves_cons (f := 79) (args := #[.pointer (some ⟨w.heap.size, 0, none⟩)]) (by simp) (by simp [go_sem]) ?_
  have hA := heap_new w (.cells #[.int .i64 0] 31)
  have c0 : (w.alloc (.cells #[.int .i64 0] 31)).cell? ⟨w.heap.size, 0, none⟩ = some (.int .i64 0) := by rw [Lib.cell_of_heap hA]; rfl
  refine (tcaught_panic ⟨w.heap.size, 0, none⟩ 0 3 _ c0 (Lib.frozen_of_heap hA 0)).mono ?_
  rintro e u' w'' ⟨rfl, rfl, rfl⟩
  have c1 := set_same (u := .int .i64 3) c0
  refine ⟨.tuple #[.slice none 0 0, .int .i64 3], ?_, _, by rw [HE.out], ((Bl.refl w).alloc _).set (by simp) _, fun ts h0 => by rw [HE.out] at h0; cases h0⟩
  simp [results, Tryz.results51, go_sem]

set_option maxHeartbeats 4000000 in
theorem tread_any (l : List UInt8) (hl : l.length ≤ 4000) (w : World) (hG : Glob w) : Calls Tryz.prog 51 #[S l] w (ReadPost l w) := by
  have HG := Lib.hid hG
  clear hG
  have hb4 : decide ((l.length : Int) ≤ 4000) = true := by simp; omega
  go_enter_defers Tryz.func51, Tryz.ntmps51
  go_wp2_with (first | (go_at_call 80; (with_reducible refine (tmust_yes _ _).mono ?_); rintro e w' ⟨rfl, rfl⟩))
  (with_reducible refine (tskip_any l (by omega) _).mono ?_)
  rintro e w1 ⟨rfl, hb1⟩
  have hA1 : w1.heap[w.heap.size]? = some (.cells #[.int .i64 0] 31 (0, 0)) := (hb1.block _ (by simp)).trans (heap_new w _)
  have hB1 : Bl w w1 := ((Bl.refl w).alloc _).call hb1
  have hst := RdAt.start l
  have hk0 := hst.1
  generalize l.length - (skipM false l).length = k0 at *
  have HST := Lib.hid hst
  clear hst hb1
  go_wp2_with fail
  go_loopw [2, 4] (fun v i wr => ∃ (k : Nat) (acc : List Tok), k ≤ l.length ∧ i = .int .i64 k ∧ Hid (RdAt l k acc) ∧ Bl w wr ∧ wr.heap[w.heap.size]? = some (.cells #[.int .i64 0] 31 (0, 0)) ∧ wr.ownsRow (w.heap.size + 1) 53 6 v acc.length (rowOf acc)) (fun _ i _ => l.length - (intOf i).toNat)
  case atStart => exact ⟨k0, [], hk0, rfl, HST.out, hB1, hA1, ⟨rfl, .inl ⟨rfl, rfl⟩⟩⟩
  case round =>
    obtain ⟨k, acc, hk, rfl, HR, hB, hA, hown⟩ := hrel
    have hwr : w.heap.size < wr.heap.size := (Array.getElem?_eq_some_iff.1 hA).1
    have hacc := HR.out.2.1
    obtain ⟨i0, hi, hz0, hz1, hz2⟩ := info_parts infoTok
    by_cases hlt : k < l.length
    · go_wp2_with fail
      (with_reducible refine (tone_any l k hlt (by omega) _ (HG.out.bl hB)).mono ?_)
      rintro e w2 ⟨rfl, hb2⟩
      have hA2 := (hb2.block _ hwr).trans hA
      have hB2 := hB.call hb2
      have hG2 := HG.out.bl hB2
      have HG2 := Lib.hid hG2
      clear hG2
      cases ho : one1 parseO (l.drop k) with
      | none =>
        have HE : Hid (allErr l = 250) := by show allErr l = 250; unfold allErr; rw [if_neg (by omega), if_pos (HR.out.bad hlt ho)]
        have c0 : w2.cell? ⟨w.heap.size, 0, none⟩ = some (.int .i64 0) := by rw [Lib.cell_of_heap hA2]; rfl
        have f0 := Lib.frozen_of_heap hA2 0
        rw [show oneEnd l k = .panicked [{ v := .iface 31 (.int .i64 250), recovered := false }] by unfold oneEnd; rw [ho]]
        refine leaves_cons (f := 79) (args := #[.pointer (some ⟨w.heap.size, 0, none⟩)]) (by simp) (by simp [go_sem]) ?_
        refine (tcaught_panic ⟨w.heap.size, 0, none⟩ 0 250 _ c0 f0).mono ?_
        rintro e u' w'' ⟨rfl, rfl, rfl⟩
        have c1 := set_same (u := .int .i64 250) c0
        refine ⟨.tuple #[u2, .int .i64 250], ?_, _, by rw [HE.out], hB2.set (by simp) _, fun ts h0 => by rw [HE.out] at h0; cases h0⟩
        simp [results, Tryz.results51, go_sem, c1]
      | some x =>
        have hle := one1_le ho
        have hlx : k + x.2.1 ≤ l.length := by have := hle.2.1; simp at this; omega
        have HN := Lib.hid (HR.out.next hlt ho)
        rw [show oneEnd l k = .returned (TV x.1 k ((l.drop k).take x.2.1) x.2.2.1 x.2.2.2.1 x.2.2.2.2) by unfold oneEnd; rw [ho]]
        have hown2 := ownsRow_bl hb2 hown
        clear hown ho hb2 hA hB
        have hln : ((l.drop k).take x.2.1).length = x.2.1 := by have := hle.2.1; simp at this ⊢; omega
        have HLN := Lib.hid hln
        clear hln
        obtain ⟨x1, m, v1, v2, v3⟩ := x
        simp only at HN HLN hlx hle ⊢
        generalize htx : (l.drop k).take m = tx at *
        have HTX := Lib.hid htx
        clear htx
        have hz2' : w.heap.size < w2.heap.size := (Array.getElem?_eq_some_iff.1 hA2).1
        have hap := ownsRow_apart hown2 (k := w.heap.size) (by omega)
        go_wp2_with (at_builtin; refine wpList_append_own _ rfl _ _ 42 rfl (w.heap.size + 1) 53 i0 (.agg #[.int .i64 0, .int .i64 0, .string ⟨#[]⟩, .int .i64 0, .int .i64 0, .string ⟨#[]⟩]) 6 64 Tryz.underlying42 hi hz0 hz1 hz2 rfl (by decide) _ _ _ rfl ((hown2.alloc _).alloc _) ⟨w2.heap.size + 1, 0, none⟩ 1 1 [.int .i64 x1, .int .i64 (k : Int), S tx, .int .i64 v1, .int .i64 v2, S v3] rfl rfl ?c1 ?c2 ?c3 ?c4 ?c5 ?_)
        case c1 =>
          intro j u hj
          match j, hj with
          | 0, hj => simp at hj; subst hj; simp [Addr.add, go_sem]
          | 1, hj => simp at hj; subst hj; simp [Addr.add, go_sem]
          | 2, hj => simp at hj; subst hj; simp [Addr.add, go_sem]
          | 3, hj => simp at hj; subst hj; simp [Addr.add, go_sem]
          | 4, hj => simp at hj; subst hj; simp [Addr.add, go_sem]
          | 5, hj => simp at hj; subst hj; simp [Addr.add, go_sem]
        case c2 => intro u hu; simp at hu; rcases hu with rfl | rfl | rfl | rfl | rfl | rfl <;> rfl
        case c3 => unfold maxLen; omega
        case c4 => omega
        case c5 => simp; omega
        intro v' w4 hown4 hgrow _
        have hne2 : u2.ownBlock ≠ some w2.heap.size := fun e => by have := (hown2.lt _ e).2; omega
        have hb4' : Bl w w4 := Below.grown ((hB2.alloc _).alloc _) hgrow (by have := hB2.size; simp; omega) (fun j hj => by have := (hown2.lt j hj).1; omega)
        have hA4 : w4.heap[w.heap.size]? = some (.cells #[.int .i64 0] 31 (0, 0)) := by
          rw [hgrow.block _ (by simp; omega) (fun e => hap e.symm), heap_old _ _ (by simp; omega), heap_old _ _ hz2']; exact hA2
        have hT4 : w4.heap[w2.heap.size]? = some (.cells #[.int .i64 x1, .int .i64 (k : Int), S tx, .int .i64 v1, .int .i64 v2, S v3] 53 (0, 0)) := by
          rw [hgrow.block _ (by simp; omega) (fun e => hne2 e.symm), heap_old _ _ (by simp), heap_new]
        have t2 : w4.cell? ⟨w2.heap.size, 2, none⟩ = some (S tx) := by rw [Lib.cell_of_heap hT4]; rfl
        have hG4 := HG.out.bl hb4'
        have htl := HLN.out
        have htail := ext_tail l (k + m)
        have hrow : rowOf acc ++ [.int .i64 x1, .int .i64 (k : Int), S tx, .int .i64 v1, .int .i64 v2, S v3] = rowOf (acc ++ [tokAt l k (x1, m, v1, v2, v3)]) := by
          rw [rowOf_snoc]; simp [tokAt, tokCells, HTX.out]
        rw [hrow] at hown4
        have HO := Lib.hid hown4
        obtain ⟨g4, cap4, rfl⟩ := own_slice hown4
        clear hown4 hgrow hrow hA2 hB2 hown2 hap hne2 hT4
        have hlt5 : (⟨tx.toArray⟩ : ByteArray).size = m := by rw [size_of_list]; exact htl
        go_wp2_with fail
        (with_reducible refine (tskip_any (l.drop (k + m)) (by simp; omega) _).mono ?_)
        rintro e w5 ⟨rfl, hb5⟩
        have hw4 : w.heap.size < w4.heap.size := (Array.getElem?_eq_some_iff.1 hA4).1
        have hA5 := (hb5.block _ hw4).trans hA4
        have hO5 := ownsRow_bl hb5 HO.out
        have hk5 := HN.out.1
        generalize (l.drop (k + m)).length - (skipM false (l.drop (k + m))).length = d at *
        clear htail hlt5 htl t2 hG4 hA4
        go_wp2
        go_roundw
        case rel => exact ⟨k + m + d, acc ++ [tokAt l k (x1, m, v1, v2, v3)], hk5, by go_num, HN.out, hb4'.call hb5, hA5, by simpa using hO5⟩
        case measure => simp [intOf]; omega
    · obtain rfl : k = l.length := by omega
      have hdone := HR.out.done
      have HD := Lib.hid hdone
      have HE : Hid (allErr l = 0) := by show allErr l = 0; unfold allErr; rw [if_neg (by omega), if_neg (by rw [hdone]; simp)]
      clear hdone
      have hap := ownsRow_apart hown (k := w.heap.size) (by omega)
      go_wp2_with (at_builtin; refine wpList_append_own _ rfl _ _ 42 rfl (w.heap.size + 1) 53 i0 (.agg #[.int .i64 0, .int .i64 0, .string ⟨#[]⟩, .int .i64 0, .int .i64 0, .string ⟨#[]⟩]) 6 64 Tryz.underlying42 hi hz0 hz1 hz2 rfl (by decide) _ _ _ rfl (hown.alloc _) ⟨wr.heap.size, 0, none⟩ 1 1 [.int .i64 4, .int .i64 (l.length : Int), .string ⟨#[]⟩, .int .i64 0, .int .i64 0, .string ⟨#[]⟩] rfl rfl ?d1 ?d2 ?d3 ?d4 ?d5 ?_)
      case d1 =>
        intro j u hj
        match j, hj with
        | 0, hj => simp at hj; subst hj; simp [Addr.add, go_sem]
        | 1, hj => simp at hj; subst hj; simp [Addr.add, go_sem]
        | 2, hj => simp at hj; subst hj; simp [Addr.add, go_sem]
        | 3, hj => simp at hj; subst hj; simp [Addr.add, go_sem]
        | 4, hj => simp at hj; subst hj; simp [Addr.add, go_sem]
        | 5, hj => simp at hj; subst hj; simp [Addr.add, go_sem]
      case d2 => intro u hu; simp at hu; rcases hu with rfl | rfl | rfl | rfl | rfl <;> rfl
      case d3 => unfold maxLen; omega
      case d4 => omega
      case d5 => simp; omega
      intro v' w4 hown4 hgrow _
      have hb4' : Bl w w4 := Below.grown (hB.alloc _) hgrow (by have := hB.size; simp; omega) (fun j hj => by have := (hown.lt j hj).1; omega)
      have hA4 : w4.heap[w.heap.size]? = some (.cells #[.int .i64 0] 31 (0, 0)) := by
        rw [hgrow.block _ (by simp; omega) (fun e => hap e.symm), heap_old _ _ hwr]; exact hA
      have hrow : rowOf acc ++ [.int .i64 4, .int .i64 (l.length : Int), .string ⟨#[]⟩, .int .i64 0, .int .i64 0, .string ⟨#[]⟩] = rowOf (acc ++ [endTok l.length]) := by
        rw [rowOf_snoc]; simp [endTok, tokCells]
      rw [hrow] at hown4
      have HO := Lib.hid hown4
      obtain ⟨g4, cap4, rfl⟩ := own_slice hown4
      have hg4 := ownsRow_apart hown4 (k := w.heap.size) (by omega)
      have HG4 := Lib.hid hg4
      clear hown4 hgrow hrow hA hB hown hap hg4
      have c0 : w4.cell? ⟨w.heap.size, 0, none⟩ = some (.int .i64 0) := by rw [Lib.cell_of_heap hA4]; rfl
      have f0 := Lib.frozen_of_heap hA4 0
      go_wp2_with fail
      refine leaves_cons (f := 79) (args := #[.pointer (some ⟨w.heap.size, 0, none⟩)]) (by simp) (by simp [go_sem]) ?_
      refine (tcaught_idle _ _).mono ?_
      rintro e u' w'' ⟨rfl, rfl, rfl⟩
      have c1 := set_same (u := .int .i64 0) c0
      refine ⟨.tuple #[.slice (some ⟨g4, 0, none⟩) (acc.length + 1) cap4, .int .i64 0], ?_, _, by rw [HE.out], hb4'.set (by simp) _, fun ts _ h1 => ?_⟩
      · simp [results, Tryz.results51, go_sem, c1]
      · rw [HD.out] at h1
        injection h1 with h1
        subst h1
        refine ownsRow_low (base := w.heap.size + 1) (HO.out.kept (row := some w.heap.size) ⟨rfl, rfl, rfl, by simp [World.setCell], fun k _ hk => Below.heap_setCell _ _ _ _ (fun e => hk (by simp [e]))⟩ (.inr HG4.out)) (by omega)

/-- token.All. -/
def AllPost (l : List UInt8) (w : World) (e : Ending) (w' : World) : Prop :=
  (∃ v, e = .returned (.tuple #[v, .int .i64 (allErr l)]) ∧ Bl w w' ∧ (allErr l ≠ 0 → v = .slice none 0 0) ∧ (∀ ts, allErr l = 0 → toksO l = some ts → w'.ownsRow w.heap.size 53 6 v (ts.length + 1) (rowOf (ts ++ [endTok l.length]))))
theorem allErr_range (l : List UInt8) : allErr l = 0 ∨ allErr l = 3 ∨ allErr l = 250 := by unfold allErr; split <;> (try split) <;> simp
theorem tread_all (l : List UInt8) (hm : l.length ≤ 9223372036854775807) (w : World) (hG : Glob w) : Calls Tryz.prog 51 #[S l] w (ReadPost l w) := by
  by_cases h : l.length ≤ 4000
  · exact tread_any l h w hG
  · exact tread_long l (by omega) hm w
set_option maxHeartbeats 1000000 in
theorem tAll_any (l : List UInt8) (hm : l.length ≤ 9223372036854775807) (w : World) (hG : Glob w) : Calls Tryz.prog 31 #[S l] w (AllPost l w) := by
  go_enter Tryz.func31, Tryz.ntmps31
  go_wp2_with fail
  refine (tread_all l hm _ hG).mono ?_
  rintro e w1 ⟨v, rfl, hb, ho⟩
  have HO := Lib.hid ho
  clear ho
  by_cases h0 : allErr l = 0
  · have HZ := Lib.hid h0
    rw [h0]
    clear h0
    go_wp2
    go_ret2
    exact ⟨v, by rw [HZ.out]; rfl, hb, fun h => absurd HZ.out h, HO.out⟩
  · have HZ := Lib.hid h0
    have hz : (allErr l != 0) = true := by simpa using h0
    have hz' : (allErr l == 0) = false := by simpa using h0
    clear h0
    go_wp2
    go_ret2
    exact ⟨.slice none 0 0, rfl, hb, fun _ => rfl, fun ts h => absurd h HZ.out⟩

end Go.Proofs.YtepkfkfedmbmnaaGreatDoor

