/- The reference's Parse. -/
import Derived.Test.YtpojlnpbadcnaaaGreatDoorR4
import Derived.Test.YtpojlnpbadcnaaaGreatDoorVP
namespace Go.Proofs.YtpojlnpbadcnaaaGreatDoor
open Go.RowKit
set_option maxRecDepth 100000

theorem qd_pairs : ∀ (n : Nat) (r : List UInt8), r.length ≤ n → qd r = if (pairs 0 r).contains 39 then none else some (pairs 39 r) := by
  intro n
  induction n with
  | zero => intro r h; obtain rfl : r = [] := by simpa using h
            simp [qd, pairs]
  | succ n ih =>
    intro r h
    match r, h with
    | [], _ => simp [qd, pairs]
    | [c], _ =>
      by_cases hc : c = 39
      · subst hc; simp [qd, pairs]
      · simp [qd, pairs, hc, Ne.symm hc]
    | c :: d :: r, h =>
      simp only [List.length_cons] at h
      by_cases hc : c = 39
      · subst hc
        by_cases hd : d = 39
        · subst hd
          rw [qd_hit, ih r (by omega)]
          simp only [pairs]
          simp
          split <;> simp
        · rw [qd_bad _ _ hd]
          simp only [pairs]
          simp [hd]
      · rw [qd_skip _ _ hc, ih (d :: r) (by simp; omega)]
        conv => rhs; unfold pairs
        simp [hc, Ne.symm hc]
        split <;> simp
theorem rquotedV_unq (l : List UInt8) : rquotedV l = unq l := by
  unfold rquotedV unq
  congr 1
  funext r
  exact qd_pairs r.length r (Nat.le_refl _)

/-- What the parser's answer is. -/
def parseEnd (s : List UInt8) : Ending := .returned (.tuple #[V (parseV s).1 (parseV s).2.1 (parseV s).2.2.1, .int .i64 (parseV s).2.2.2])
theorem parseEnd_ok {s : List UInt8} {k n : Int} {l : List UInt8} (h : readV s = some (k, n, l)) (hc : chk k n l = 0) : Ending.returned (.tuple #[V k n l, .int .i64 0]) = parseEnd s := by
  simp [parseEnd, parseV, h, hc]
theorem parseEnd_chk {s : List UInt8} {k n : Int} {l : List UInt8} (h : readV s = some (k, n, l)) (hc : ¬ chk k n l = 0) : Ending.returned (.tuple #[V 0 0 [], .int .i64 (chk k n l)]) = parseEnd s := by
  simp [parseEnd, parseV, h, hc]
theorem parseEnd_no {s : List UInt8} (h : readV s = none) : Ending.returned (.tuple #[V 0 0 [], .int .i64 110]) = parseEnd s := by
  simp [parseEnd, parseV, h]

theorem nameT0 : nameT 0 = [102, 97, 108, 115, 101] := by decide
theorem nameT1 : nameT 1 = [116, 114, 117, 101] := by decide
theorem nameT2 : nameT 2 = [110, 117, 108, 108] := by decide
theorem isName_not {s : List UInt8} (h0 : s ≠ [110, 117, 108, 108]) (h1 : s ≠ [102, 97, 108, 115, 101]) (h2 : s ≠ [116, 114, 117, 101]) : isName s = none := by
  unfold isName; rw [nameT0, nameT1, nameT2, if_neg (Ne.symm h1), if_neg (Ne.symm h2), if_neg (Ne.symm h0)]

def RParsePost (s : List UInt8) (w : World) (e : Ending) (w' : World) : Prop := e = parseEnd s ∧ Bl w w'

theorem rp_ret {a : Act} {W : World} {b : Nat} {k n ec : Int} {l : List UInt8} {s : List UInt8} {w : World} (h2 : a.tmps[2]? = some (.pointer (some ⟨b, 0, none⟩))) (h3 : a.tmps[3]? = some (.int .i64 ec)) (hd : a.defers = [])
    (hW : W.heap[b]? = some (.cells #[.int .i64 k, .int .i64 n, S l] 24 (0, 0))) (hE : Ending.returned (.tuple #[V k n l, .int .i64 ec]) = parseEnd s) (hb : Bl w W) : bodyPost Tryz.prog Tryz.f14 (RParsePost s w) .ret a W := by
  have q0 : W.cell? ⟨b, 0, none⟩ = some (.int .i64 k) := by rw [Lib.cell_of_heap hW]; rfl
  have q1 : W.cell? ⟨b, 1, none⟩ = some (.int .i64 n) := by rw [Lib.cell_of_heap hW]; rfl
  have q2 : W.cell? ⟨b, 2, none⟩ = some (S l) := by rw [Lib.cell_of_heap hW]; rfl
  obtain ⟨t, d⟩ := a
  refine bodyPost_ret (v := .tuple #[V k n l, .int .i64 ec]) ?_ hd ⟨hE, hb⟩
  simp [results, Tryz.results14, go_sem, q0, q1, q2, h2, h3]

set_option maxHeartbeats 1000000 in
theorem rParse_null (w : World) : Calls Tryz.prog 14 #[S [110, 117, 108, 108]] w (RParsePost [110, 117, 108, 108] w) := by
  go_enter Tryz.func14, Tryz.ntmps14
  go_wp2_with fail
  exact rp_ret (b := w.heap.size) (k := 0) (n := 0) (l := []) (ec := 0) rfl rfl rfl (heap_new w _) (parseEnd_ok (by decide) (by decide)) ((Bl.refl w).alloc _)
set_option maxHeartbeats 1000000 in
theorem rParse_false (w : World) : Calls Tryz.prog 14 #[S [102, 97, 108, 115, 101]] w (RParsePost [102, 97, 108, 115, 101] w) := by
  go_enter Tryz.func14, Tryz.ntmps14
  go_wp2_with fail
  (with_reducible refine (rOf_any 0 (by omega) (by omega) _).mono ?_)
  rintro e w1 ⟨rfl, hb1⟩
  have hA : w1.heap[w.heap.size]? = some (.cells #[.int .i64 0, .int .i64 0, .string ⟨#[]⟩] 24 (0, 0)) := by rw [hb1.block _ (by simp), heap_new]
  have c0 : w1.cell? ⟨w.heap.size, 0, none⟩ = some (.int .i64 0) := by rw [Lib.cell_of_heap hA]; rfl
  have c1 : w1.cell? ⟨w.heap.size, 1, none⟩ = some (.int .i64 0) := by rw [Lib.cell_of_heap hA]; rfl
  have c2 : w1.cell? ⟨w.heap.size, 2, none⟩ = some (.string ⟨#[]⟩) := by rw [Lib.cell_of_heap hA]; rfl
  have f0 := Lib.frozen_of_heap hA 0
  have f1 := Lib.frozen_of_heap hA 1
  have f2 := Lib.frozen_of_heap hA 2
  go_wp2_with fail
  exact rp_ret (b := w.heap.size) (k := 1) (n := 0) (l := []) (ec := 0) rfl rfl rfl (heap_set3 _ _ _ _ _ _ _ _ _ hA) (parseEnd_ok (by decide) (by decide)) ((((((Bl.refl w).alloc _).call hb1).set (by simp) _).set (by simp) _).set (by simp) _)
set_option maxHeartbeats 1000000 in
theorem rParse_true (w : World) : Calls Tryz.prog 14 #[S [116, 114, 117, 101]] w (RParsePost [116, 114, 117, 101] w) := by
  go_enter Tryz.func14, Tryz.ntmps14
  go_wp2_with fail
  (with_reducible refine (rOf_any 1 (by omega) (by omega) _).mono ?_)
  rintro e w1 ⟨rfl, hb1⟩
  have hA : w1.heap[w.heap.size]? = some (.cells #[.int .i64 0, .int .i64 0, .string ⟨#[]⟩] 24 (0, 0)) := by rw [hb1.block _ (by simp), heap_new]
  have c0 : w1.cell? ⟨w.heap.size, 0, none⟩ = some (.int .i64 0) := by rw [Lib.cell_of_heap hA]; rfl
  have c1 : w1.cell? ⟨w.heap.size, 1, none⟩ = some (.int .i64 0) := by rw [Lib.cell_of_heap hA]; rfl
  have c2 : w1.cell? ⟨w.heap.size, 2, none⟩ = some (.string ⟨#[]⟩) := by rw [Lib.cell_of_heap hA]; rfl
  have f0 := Lib.frozen_of_heap hA 0
  have f1 := Lib.frozen_of_heap hA 1
  have f2 := Lib.frozen_of_heap hA 2
  go_wp2_with fail
  exact rp_ret (b := w.heap.size) (k := 1) (n := 1) (l := []) (ec := 0) rfl rfl rfl (heap_set3 _ _ _ _ _ _ _ _ _ hA) (parseEnd_ok (by decide) (by decide)) ((((((Bl.refl w).alloc _).call hb1).set (by simp) _).set (by simp) _).set (by simp) _)

theorem readV_num {s : List UInt8} {n : Int} (h : isName s = none) (hn : readNum s = some n) : readV s = some (2, n, []) := by simp [readV, h, hn]
theorem readV_rest {s : List UInt8} (h : isName s = none) (hn : readNum s = none) : readV s = (readRest s).map fun x => (x.1, 0, x.2) := by
  simp only [readV, h, hn]
theorem readNum_nil : readNum [] = none := by decide
theorem chk_num (n : Int) : chk 2 n [] = 0 := by simp [chk]

theorem readRest_x (r : List UInt8) : readRest (120 :: r) = (unq r).bind fun q => if hexAll q then some (4, unhex q) else none := by
  simp [readRest, Lib.hasPrefix, Lib.trimPrefix]
theorem readRest_t {s : List UInt8} (h : s[0]? ≠ some 120) : readRest s = (unq s).map fun q => (3, q) := by
  have : Lib.hasPrefix s [120] = false := by
    cases s with
    | nil => rfl
    | cons c r => simp only [Lib.hasPrefix, List.isPrefixOf, Bool.and_true]; simp at h; simpa using Ne.symm h
  simp [readRest, this]
theorem tup2_some {l q : List UInt8} (h : unq l = some q) : tup2 (rquotedV l) = .returned (.tuple #[S q, .bool true]) := by rw [rquotedV_unq, h]; rfl
theorem tup2_none {l : List UInt8} (h : unq l = none) : tup2 (rquotedV l) = .returned (.tuple #[S [], .bool false]) := by rw [rquotedV_unq, h]; rfl

theorem hv_not (c : UInt8) (h : ¬ isHex c = true) : hv c = -1 := by
  refine indexByte_none digitsL c fun j hj e => h ?_
  have := List.mem_of_getElem? e
  simpa [isHex] using this
theorem hv_bound (c : UInt8) : -1 ≤ hv c ∧ hv c ≤ 15 := by
  by_cases h : isHex c = true
  · have := hv_range c h; omega
  · rw [hv_not c h]; omega
theorem hv_hex (c : UInt8) : isHex c = true ↔ 0 ≤ hv c := by
  constructor
  · intro h; exact (hv_range c h).1
  · intro h
    cases hh : isHex c with
    | true => rfl
    | false => rw [hv_not c (by simp [hh])] at h; omega

theorem take_two {l : List UInt8} {m : Nat} (hm : m < l.length) (hm1 : m + 1 < l.length) : l.take (m + 2) = l.take m ++ [l[m], l[m + 1]] := by
  have e1 := List.take_add_one (l := l) (i := m + 1)
  have e2 := List.take_add_one (l := l) (i := m)
  rw [List.getElem?_eq_getElem hm1] at e1
  rw [List.getElem?_eq_getElem hm] at e2
  rw [show m + 2 = (m + 1) + 1 from rfl, e1, e2, List.append_assoc]
  rfl
theorem heap_set2 (w : World) (b : Nat) (x y z z' : Value) (t : TypeId) (h : w.heap[b]? = some (.cells #[x, y, z] t (0, 0))) :
    (w.setCell ⟨b, 2, none⟩ z').heap[b]? = some (.cells #[x, y, z'] t (0, 0)) := by
  simp [World.setCell, Array.getElem?_modify, h]

set_option maxHeartbeats 2000000 in
theorem rParse_rest (s : List UInt8) (hs : s.length ≤ 10000) (h0 : s ≠ [110, 117, 108, 108]) (h1 : s ≠ [102, 97, 108, 115, 101]) (h2 : s ≠ [116, 114, 117, 101]) (w : World) : Calls Tryz.prog 14 #[S s] w (RParsePost s w) := by
  have HN := Lib.hid (isName_not h0 h1 h2)
  have b0 : (s == [110, 117, 108, 108]) = false := by simpa using h0
  have b1 : (s == [102, 97, 108, 115, 101]) = false := by simpa using h1
  have b2 : (s == [116, 114, 117, 101]) = false := by simpa using h2
  clear h0 h1 h2
  go_enter Tryz.func14, Tryz.ntmps14
  go_wp2_with fail
  (with_reducible refine (rWhole_any s hs _).mono ?_)
  rintro e w1 ⟨x, b, rfl, rfl, HW⟩
  have HW := Lib.hid HW
  clear b0 b1 b2
  cases b with
  | true =>
    go_wp2_with fail
    exact rp_ret (b := w.heap.size) (k := 2) (n := x) (l := []) (ec := 0) rfl rfl rfl (heap_new w _) (parseEnd_ok (readV_num HN.out (HW.out.1 rfl)) (chk_num x)) ((Bl.refl w).alloc _)
  | false =>
    have HR := Lib.hid (readV_rest HN.out (HW.out.2 rfl))
    clear HW HN
    by_cases h120 : s[0]? = some 120
    · obtain ⟨r, rfl⟩ : ∃ r, s = 120 :: r := by
        cases s with
        | nil => simp at h120
        | cons c r => exact ⟨r, by simpa using h120⟩
      have HS := Lib.hid (readRest_x r)
      have hcut : (⟨(120 :: r).toArray⟩ : ByteArray).extract 1 (r.length + 1) = ⟨r.toArray⟩ := by
        apply ByteArray.ext
        apply Array.ext'
        simp
      have hx0 : (⟨(120 :: r).toArray⟩ : ByteArray)[0]'(by rw [size_of_list]; simp) = 120 := rfl
      have hrl : r.length ≤ 10000 := by simp at hs; omega
      clear h120
      go_wp2_with fail
      (with_reducible refine (rquoted_any r hrl _).mono ?_)
      rintro e w2 ⟨he, rfl⟩
      clear hcut hx0
      cases hq : unq r with
      | none =>
        rw [tup2_none hq] at he
        have hR : readV (120 :: r) = none := by rw [HR.out, HS.out, hq]; rfl
        have HR := Lib.hid hR
        clear hR hq HS
        subst he
        go_wp2_with fail
        exact rp_ret (b := w.heap.size) (k := 0) (n := 0) (l := []) (ec := 110) rfl rfl rfl (heap_new w _) (parseEnd_no HR.out) ((Bl.refl w).alloc _)
      | some q =>
        rw [tup2_some hq] at he
        have hql := unq_length hq
        have hR : readV (120 :: r) = if hexAll q then some (4, 0, unhex q) else none := by rw [HR.out, HS.out, hq]; simp only [Option.bind_some]; split <;> rfl
        have HR := Lib.hid hR
        clear hR hq HS
        subst he
        by_cases hev : q.length % 2 = 0
        · have hb : ((q.length : Int) % 2 == 1) = false := by simp; omega
          have HE := Lib.hid hev
          clear hev
          go_wp2_with fail
          go_loopw [10, 11, 12] (fun i _ _ wr => ∃ m : Nat, m ≤ q.length ∧ i = .int .i64 (m : Int) ∧ Hid (m % 2 = 0) ∧ Hid (∀ c ∈ q.take m, isHex c = true) ∧ Bl w wr ∧ wr.heap[w.heap.size]? = some (.cells #[.int .i64 0, .int .i64 0, .string ⟨#[]⟩] 24 (0, 0)) ∧ wr.heap[w.heap.size + 1]? = some (.cells #[.int .i64 4, .int .i64 0, .string ⟨(unhex (q.take m)).toArray⟩] 24 (0, 0))) (fun i _ _ _ => q.length - (intOf i).toNat)
          case atStart => exact ⟨0, by omega, rfl, rfl, fun c hc => by simp at hc, (((Bl.refl w).alloc _).alloc _), by rw [heap_old _ _ (by simp), heap_new], by rw [heap_new' _ _ (by simp)]; rfl⟩
          case round =>
            obtain ⟨m, hm, rfl, HM, HH, hbw, hA, hB⟩ := hrel
            by_cases hlt : m < q.length
            · have hlt1 : m + 1 < q.length := by have := HE.out; have := HM.out; omega
              have g1 := Lib.hid (get_byte q m (by rw [size_of_list]; exact hlt))
              have g2 := Lib.hid (get_byte q (m + 1) (by rw [size_of_list]; exact hlt1))
              generalize hc1 : (⟨q.toArray⟩ : ByteArray)[m]'(by rw [size_of_list]; exact hlt) = c at *
              generalize hc2 : (⟨q.toArray⟩ : ByteArray)[m + 1]'(by rw [size_of_list]; exact hlt1) = d at *
              have x1 : IntKind.i64.wrap ((m : Int) + 1) = (m : Int) + 1 := IntWalk.i64_in _ (by omega)
              have x2 : ((m : Int) + 1).toNat = m + 1 := by omega
              have x3 : 0 ≤ (m : Int) + 1 ∧ (m : Int) + 1 < (q.length : Int) := by omega
              have hv1 := hv_bound c
              have hv2 := hv_bound d
              go_wp2_with fail
              go_region_held3 (fun _ => True) (trivial)
                (first
                  | ((with_reducible refine (rdigit_any c _).mono ?_); rintro e w' ⟨rfl, rfl⟩)
                  | ((with_reducible refine (rdigit_any d _).mono ?_); rintro e w' ⟨rfl, rfl⟩))
              all_goals
                clear x1 x2 x3
                have hbw := hbw.drew
                have hA : wr.drew.heap[w.heap.size]? = _ := hA
                have hB : wr.drew.heap[w.heap.size + 1]? = _ := hB
                generalize wr.drew = W at *
                by_cases hh : 0 ≤ hv c ∧ 0 ≤ hv d
                · have hc' := (hv_hex c).2 hh.1
                  have hd' := (hv_hex d).2 hh.2
                  have HC := Lib.hid hc'
                  have HD := Lib.hid hd'
                  clear hc' hd'
                  have hun := unhex_take q m HM.out hlt hlt1
                  rw [← of_get g1.out, ← of_get g2.out] at hun
                  have HU := Lib.hid hun
                  clear hun
                  obtain ⟨a, ha, ha15⟩ : ∃ a : Nat, hv c = a ∧ a ≤ 15 := ⟨(hv c).toNat, by omega, by omega⟩
                  obtain ⟨b, hb, hb15⟩ : ∃ b : Nat, hv d = b ∧ b ≤ 15 := ⟨(hv d).toNat, by omega, by omega⟩
                  have HAB := Lib.hid (And.intro ha hb)
                  rw [ha, hb]
                  clear ha hb hh hv1 hv2
                  have hlB : w.heap.size + 1 < W.heap.size := (Array.getElem?_eq_some_iff.1 hB).1
                  have hlA : w.heap.size < W.heap.size := by omega
                  have x4 : IntKind.i64.wrap (16 * (a : Int)) = 16 * (a : Int) := IntWalk.i64_in _ (by omega)
                  have x5 : IntKind.i64.wrap (16 * (a : Int) + (b : Int)) = 16 * (a : Int) + (b : Int) := IntWalk.i64_in _ (by omega)
                  have x6 : IntKind.u8.wrap (16 * (a : Int) + (b : Int)) = 16 * (a : Int) + (b : Int) := by simp [IntKind.wrap, IntKind.bits, IntKind.signed]; omega
                  have hB2 : (W.alloc (.cells #[.int .u8 (16 * (a : Int) + (b : Int))] 5)).heap[w.heap.size + 1]? = _ := (heap_old _ _ hlB).trans hB
                  have hA2 : (W.alloc (.cells #[.int .u8 (16 * (a : Int) + (b : Int))] 5)).heap[w.heap.size]? = _ := (heap_old _ _ hlA).trans hA
                  have hN2 : (W.alloc (.cells #[.int .u8 (16 * (a : Int) + (b : Int))] 5)).heap[W.heap.size]? = _ := heap_new _ _
                  have hbw2 := hbw.alloc (.cells #[.int .u8 (16 * (a : Int) + (b : Int))] 5)
                  have hcv := run_convert_bytes_back (P := Tryz.prog) (W.alloc (.cells #[.int .u8 (16 * (a : Int) + (b : Int))] 5)) 77 9 5 ⟨W.heap.size, 0, none⟩ 1 [UInt8.ofNat (16 * a + b)] Tryz.underlying77 Tryz.underlying5 Tryz.underlying9 (by
                    intro j hj
                    obtain rfl : j = 0 := by simpa using hj
                    rw [show (⟨W.heap.size, 0, none⟩ : Addr).add 0 = ⟨W.heap.size, 0, none⟩ by simp [Addr.add], Lib.cell_of_heap hN2]
                    simp [UInt8.toNat_ofNat']
                    omega)
                  simp only [List.length_cons, List.length_nil, Nat.zero_add] at hcv
                  have q2 : W.cell? ⟨w.heap.size + 1, 2, none⟩ = some (.string ⟨(unhex (q.take m)).toArray⟩) := by rw [Lib.cell_of_heap hB]; rfl
                  have f2 := Lib.frozen_of_heap hB 2
                  have hul := unhex_length (q.take m)
                  have hul2 : (unhex (q.take m)).length ≤ 10000 := by simp at hul; omega
                  generalize hz : UInt8.ofNat (16 * a + b) = z at hcv
                  have HZ := Lib.hid hz
                  clear hz
                  go_wp2
                  go_roundw
                  case rel =>
                    refine ⟨m + 2, by omega, by go_num, by have := HM.out; show (m + 2) % 2 = 0; omega, ?_, (hbw.set (by simp) _).alloc _, ?_, ?_⟩
                    · intro y hy
                      rw [take_two hlt hlt1, ← of_get g1.out, ← of_get g2.out] at hy
                      rcases List.mem_append.1 hy with hy | hy
                      · exact HH.out y hy
                      · simp only [List.mem_cons, List.mem_nil_iff, or_false] at hy
                        rcases hy with rfl | rfl
                        · exact HC.out
                        · exact HD.out
                    · exact (heap_old _ _ (by simpa using hlA)).trans ((heap_set_other _ _ _ _ (by simp)).trans hA)
                    · refine (heap_old _ _ (by simpa using hlB)).trans ((heap_set2 _ _ _ _ _ _ _ hB).trans ?_)
                      rw [HU.out, HAB.out.1, HAB.out.2, cat_arr, ← HZ.out, show (16 * (a : Int) + (b : Int)).toNat = 16 * a + b by omega]
                      simp
                  case measure => simp [intOf]; omega
                · have hR : readV (120 :: r) = none := by
                    rw [HR.out, if_neg]
                    intro h
                    exact hh ⟨(hv_hex c).1 (h.2 c (List.mem_of_getElem? g1.out)), (hv_hex d).1 (h.2 d (List.mem_of_getElem? g2.out))⟩
                  have HR := Lib.hid hR
                  clear hR
                  have c0 : W.cell? ⟨w.heap.size, 0, none⟩ = some (.int .i64 0) := by rw [Lib.cell_of_heap hA]; rfl
                  have c1 : W.cell? ⟨w.heap.size, 1, none⟩ = some (.int .i64 0) := by rw [Lib.cell_of_heap hA]; rfl
                  have c2 : W.cell? ⟨w.heap.size, 2, none⟩ = some (.string ⟨#[]⟩) := by rw [Lib.cell_of_heap hA]; rfl
                  have f0 := Lib.frozen_of_heap hA 0
                  have f1 := Lib.frozen_of_heap hA 1
                  have f2 := Lib.frozen_of_heap hA 2
                  by_cases hc0 : 0 ≤ hv c
                  · have hd0 : hv d < 0 := by omega
                    clear hh
                    go_wp2
                    exact rp_ret (b := w.heap.size) (k := 0) (n := 0) (l := []) (ec := 110) rfl rfl rfl (heap_set3 _ _ _ _ _ _ _ _ _ hA) (parseEnd_no HR.out) (((hbw.set (by simp) _).set (by simp) _).set (by simp) _)
                  · have hc0 : hv c < 0 := by omega
                    clear hh
                    go_wp2
                    exact rp_ret (b := w.heap.size) (k := 0) (n := 0) (l := []) (ec := 110) rfl rfl rfl (heap_set3 _ _ _ _ _ _ _ _ _ hA) (parseEnd_no HR.out) (((hbw.set (by simp) _).set (by simp) _).set (by simp) _)
            · obtain rfl : m = q.length := by omega
              have hH := HH.out
              rw [List.take_length] at hH hB
              have hR : readV (120 :: r) = some (4, 0, unhex q) := by rw [HR.out, if_pos ⟨HE.out, hH⟩]
              have HR := Lib.hid hR
              clear hR hH HH HM
              have q0 : wr.cell? ⟨w.heap.size + 1, 0, none⟩ = some (.int .i64 4) := by rw [Lib.cell_of_heap hB]; rfl
              have q1 : wr.cell? ⟨w.heap.size + 1, 1, none⟩ = some (.int .i64 0) := by rw [Lib.cell_of_heap hB]; rfl
              have q2 : wr.cell? ⟨w.heap.size + 1, 2, none⟩ = some (.string ⟨(unhex q).toArray⟩) := by rw [Lib.cell_of_heap hB]; rfl
              go_wp2_with fail
              clear q0 q1 q2
              have hlA : w.heap.size < wr.heap.size := (Array.getElem?_eq_some_iff.1 hA).1
              have hlB : w.heap.size + 1 < wr.heap.size := (Array.getElem?_eq_some_iff.1 hB).1
              (with_reducible refine (rCheck_any 4 0 (unhex q) (by omega) (by omega) _).mono ?_)
              rintro e w3 ⟨rfl, hb3⟩
              have hA := (hb3.block _ hlA).trans hA
              have hB := (hb3.block _ hlB).trans hB
              have hbw := hbw.call hb3
              have q0 : w3.cell? ⟨w.heap.size + 1, 0, none⟩ = some (.int .i64 4) := by rw [Lib.cell_of_heap hB]; rfl
              have q1 : w3.cell? ⟨w.heap.size + 1, 1, none⟩ = some (.int .i64 0) := by rw [Lib.cell_of_heap hB]; rfl
              have q2 : w3.cell? ⟨w.heap.size + 1, 2, none⟩ = some (.string ⟨(unhex q).toArray⟩) := by rw [Lib.cell_of_heap hB]; rfl
              have c0 : w3.cell? ⟨w.heap.size, 0, none⟩ = some (.int .i64 0) := by rw [Lib.cell_of_heap hA]; rfl
              have c1 : w3.cell? ⟨w.heap.size, 1, none⟩ = some (.int .i64 0) := by rw [Lib.cell_of_heap hA]; rfl
              have c2 : w3.cell? ⟨w.heap.size, 2, none⟩ = some (.string ⟨#[]⟩) := by rw [Lib.cell_of_heap hA]; rfl
              have f0 := Lib.frozen_of_heap hA 0
              have f1 := Lib.frozen_of_heap hA 1
              have f2 := Lib.frozen_of_heap hA 2
              by_cases hc : chk 4 0 (unhex q) = 0
              · rw [hc]
                have HC := Lib.hid hc
                clear hc
                go_wp2_with fail
                exact rp_ret (b := w.heap.size) (k := 4) (n := 0) (l := (unhex q)) (ec := 0) rfl rfl rfl (heap_set3 _ _ _ _ _ _ _ _ _ hA) (parseEnd_ok HR.out HC.out) (((hbw.set (by simp) _).set (by simp) _).set (by simp) _)
              · have hb : (chk 4 0 (unhex q) != 0) = true := by simpa using hc
                have HC := Lib.hid hc
                clear hc
                go_wp2_with fail
                exact rp_ret (b := w.heap.size) (k := 0) (n := 0) (l := []) (ec := chk 4 0 (unhex q)) rfl rfl rfl (heap_set3 _ _ _ _ _ _ _ _ _ hA) (parseEnd_chk HR.out HC.out) (((hbw.set (by simp) _).set (by simp) _).set (by simp) _)
        · have hb : ((q.length : Int) % 2 == 1) = true := by simp; omega
          have hR : readV (120 :: r) = none := by rw [HR.out, if_neg]; intro h; exact hev h.1
          have HR := Lib.hid hR
          clear hR hev
          go_wp2_with fail
          exact rp_ret (b := w.heap.size) (k := 0) (n := 0) (l := []) (ec := 110) rfl rfl rfl ((heap_old _ _ (by simp)).trans (heap_new w _)) (parseEnd_no HR.out) (((Bl.refl w).alloc _).alloc _)
    · have HS := Lib.hid (readRest_t h120)
      have hb0 : ∀ hp : 0 < s.length, ((((⟨s.toArray⟩ : ByteArray)[0]'(by rw [size_of_list]; exact hp)).toNat : Int) == 120) = false := by
        intro hp
        have g0 := get_byte s 0 (by rw [size_of_list]; exact hp)
        cases hb : ((((⟨s.toArray⟩ : ByteArray)[0]'(by rw [size_of_list]; exact hp)).toNat : Int) == 120) with
        | false => rfl
        | true => exact absurd (g0.trans (congrArg some (byte_beq (b := 120) hb))) h120
      clear h120
      by_cases hp : 0 < s.length
      · have hb := hb0 hp
        clear hb0
        go_wp2_with fail
        (with_reducible refine (rquoted_any s hs _).mono ?_)
        rintro e w2 ⟨he, rfl⟩
        cases hq : unq s with
        | none =>
          rw [tup2_none hq] at he
          have hR : readV s = none := by rw [HR.out, HS.out, hq]; rfl
          have HR := Lib.hid hR
          clear hR hq HS hb
          subst he
          go_wp2_with fail
          exact rp_ret (b := w.heap.size) (k := 0) (n := 0) (l := []) (ec := 110) rfl rfl rfl (heap_new w _) (parseEnd_no HR.out) ((Bl.refl w).alloc _)
        | some q =>
          rw [tup2_some hq] at he
          have hR : readV s = some (3, 0, q) := by rw [HR.out, HS.out, hq]; rfl
          have HR := Lib.hid hR
          clear hR hq HS hb
          subst he
          go_wp2_with fail
          (with_reducible refine (rCheck_any 3 0 q (by omega) (by omega) _).mono ?_)
          rintro e w3 ⟨rfl, hb3⟩
          have hA : w3.heap[w.heap.size]? = some (.cells #[.int .i64 0, .int .i64 0, .string ⟨#[]⟩] 24 (0, 0)) := by rw [hb3.block _ (by simp; omega), heap_old _ _ (by simp), heap_new]
          have hB : w3.heap[w.heap.size + 1]? = some (.cells #[.int .i64 3, .int .i64 0, .string ⟨q.toArray⟩] 24 (0, 0)) := by rw [hb3.block _ (by simp), heap_new' _ _ (by simp)]
          have hbw := (((Bl.refl w).alloc _).alloc _).call hb3
          have q0 : w3.cell? ⟨w.heap.size + 1, 0, none⟩ = some (.int .i64 3) := by rw [Lib.cell_of_heap hB]; rfl
          have q1 : w3.cell? ⟨w.heap.size + 1, 1, none⟩ = some (.int .i64 0) := by rw [Lib.cell_of_heap hB]; rfl
          have q2 : w3.cell? ⟨w.heap.size + 1, 2, none⟩ = some (.string ⟨q.toArray⟩) := by rw [Lib.cell_of_heap hB]; rfl
          have c0 : w3.cell? ⟨w.heap.size, 0, none⟩ = some (.int .i64 0) := by rw [Lib.cell_of_heap hA]; rfl
          have c1 : w3.cell? ⟨w.heap.size, 1, none⟩ = some (.int .i64 0) := by rw [Lib.cell_of_heap hA]; rfl
          have c2 : w3.cell? ⟨w.heap.size, 2, none⟩ = some (.string ⟨#[]⟩) := by rw [Lib.cell_of_heap hA]; rfl
          have f0 := Lib.frozen_of_heap hA 0
          have f1 := Lib.frozen_of_heap hA 1
          have f2 := Lib.frozen_of_heap hA 2
          by_cases hc : chk 3 0 q = 0
          · rw [hc]
            have HC := Lib.hid hc
            clear hc
            go_wp2_with fail
            exact rp_ret (b := w.heap.size) (k := 3) (n := 0) (l := q) (ec := 0) rfl rfl rfl (heap_set3 _ _ _ _ _ _ _ _ _ hA) (parseEnd_ok HR.out HC.out) (((hbw.set (by simp) _).set (by simp) _).set (by simp) _)
          · have hb : (chk 3 0 q != 0) = true := by simpa using hc
            have HC := Lib.hid hc
            clear hc
            go_wp2_with fail
            exact rp_ret (b := w.heap.size) (k := 0) (n := 0) (l := []) (ec := chk 3 0 q) rfl rfl rfl (heap_set3 _ _ _ _ _ _ _ _ _ hA) (parseEnd_chk HR.out HC.out) (((hbw.set (by simp) _).set (by simp) _).set (by simp) _)
      · obtain rfl : s = [] := by simpa using hp
        clear hb0
        go_wp2_with fail
        (with_reducible refine (rquoted_any [] (by simp) _).mono ?_)
        rintro e w2 ⟨he, rfl⟩
        rw [tup2_none (by decide)] at he
        subst he
        go_wp2_with fail
        exact rp_ret (b := w.heap.size) (k := 0) (n := 0) (l := []) (ec := 110) rfl rfl rfl (heap_new w _) (parseEnd_no (by decide)) ((Bl.refl w).alloc _)

theorem rParse_any (s : List UInt8) (hs : s.length ≤ 10000) (w : World) : Calls Tryz.prog 14 #[S s] w (RParsePost s w) := by
  by_cases h0 : s = [110, 117, 108, 108]
  · rw [h0]; exact rParse_null w
  by_cases h1 : s = [102, 97, 108, 115, 101]
  · rw [h1]; exact rParse_false w
  by_cases h2 : s = [116, 114, 117, 101]
  · rw [h2]; exact rParse_true w
  exact rParse_rest s hs h0 h1 h2 w

end Go.Proofs.YtpojlnpbadcnaaaGreatDoor
