/- Package token: one. -/
import Derived.Test.YtdhaddldmooniaaGreatDoorT4
namespace Go.Proofs.YtdhaddldmooniaaGreatDoor
open Go.RowKit
set_option maxRecDepth 100000

/-- A value's text, read. -/
def parseO (s : List UInt8) : Option (Int × Int × List UInt8) := if (parseV s).2.2.2 = 0 then some ((parseV s).1, (parseV s).2.1, (parseV s).2.2.1) else none
/-- A token as a value. -/
abbrev TV (k pos : Int) (t : List UInt8) (a b : Int) (c : List UInt8) : Value := .agg #[.int .i64 k, .int .i64 pos, S t, .int .i64 a, .int .i64 b, S c]
def oneEnd (l : List UInt8) (n : Nat) : Ending := match one1 parseO (l.drop n) with
  | some x => .returned (TV x.1 n ((l.drop n).take x.2.1) x.2.2.1 x.2.2.2.1 x.2.2.2.2)
  | none => .panicked [{ v := .iface 25 (.int .i64 250), recovered := false }]

/-- What has been tried ahead of kind k. -/
def Tried (l : List UInt8) (k : Nat) : Prop := 1 ≤ k ∧ k ≤ 4 ∧ ∀ j, 1 ≤ j → j < k → blen j l = some 0

theorem cons_of {s : List UInt8} (h : 1 ≤ s.length) : ∃ c r, s = c :: r := by
  cases s with
  | nil => simp at h
  | cons c r => exact ⟨c, r, rfl⟩
theorem Tried.hit {s : List UInt8} (hs : 1 ≤ s.length) {k m : Nat} (h : Tried s k) (hk : k < 4) (hm : blen k s = some (m + 1)) : cut1 s = some ((k : Int), m + 1) := by
  obtain ⟨c, r, rfl⟩ := cons_of hs
  rw [← cut3_is]
  obtain ⟨h1, _, h2⟩ := h
  obtain rfl | rfl | rfl : k = 1 ∨ k = 2 ∨ k = 3 := by omega
  · have hm : wlen (c :: r) = some (m + 1) := hm
    unfold cut3; rw [hm]; rfl
  · have hw : wlen (c :: r) = some 0 := h2 1 (by omega) (by omega)
    have hm : vlen (c :: r) = some (m + 1) := hm
    unfold cut3; rw [hw, hm]; rfl
  · have hw : wlen (c :: r) = some 0 := h2 1 (by omega) (by omega)
    have hv : vlen (c :: r) = some 0 := h2 2 (by omega) (by omega)
    have hm : some (signOf (c :: r)).length = some (m + 1) := hm
    injection hm with hm
    unfold cut3; rw [hw, hv]
    simp only
    rw [hm, if_neg (by omega)]; rfl
theorem Tried.bad {s : List UInt8} (hs : 1 ≤ s.length) {k : Nat} (h : Tried s k) (hk : k < 4) (hm : blen k s = none) : cut1 s = none := by
  obtain ⟨c, r, rfl⟩ := cons_of hs
  rw [← cut3_is]
  obtain ⟨h1, _, h2⟩ := h
  obtain rfl | rfl | rfl : k = 1 ∨ k = 2 ∨ k = 3 := by omega
  · have hm : wlen (c :: r) = none := hm
    unfold cut3; rw [hm]
  · have hw : wlen (c :: r) = some 0 := h2 1 (by omega) (by omega)
    have hm : vlen (c :: r) = none := hm
    unfold cut3; rw [hw, hm]
  · cases hm
theorem Tried.all {s : List UInt8} (hs : 1 ≤ s.length) (h : Tried s 4) : cut1 s = none := by
  obtain ⟨c, r, rfl⟩ := cons_of hs
  rw [← cut3_is]
  obtain ⟨h1, _, h2⟩ := h
  have hw : wlen (c :: r) = some 0 := h2 1 (by omega) (by omega)
  have hv : vlen (c :: r) = some 0 := h2 2 (by omega) (by omega)
  have hm : some (signOf (c :: r)).length = some 0 := h2 3 (by omega) (by omega)
  injection hm with hm
  unfold cut3; rw [hw, hv]
  simp only
  rw [hm, if_pos rfl]
theorem Tried.next {s : List UInt8} {k : Nat} (h : Tried s k) (hk : k < 4) (hm : blen k s = some 0) : Tried s (k + 1) :=
  ⟨by omega, by omega, fun j h1 h2 => by
    by_cases e : j = k
    · rw [e]; exact hm
    · exact h.2.2 j h1 (by omega)⟩

theorem oneEnd_none {l s : List UInt8} {n : Nat} (hs : l.drop n = s) (h : cut1 s = none) : Ending.panicked [{ v := .iface 25 (.int .i64 250), recovered := false }] = oneEnd l n := by
  unfold oneEnd one1; rw [hs, h]; rfl
theorem oneEnd_plain {l s : List UInt8} {n m : Nat} {k : Int} (hs : l.drop n = s) (h : cut1 s = some (k, m)) (hk : k ≠ 2) : Ending.returned (TV k n (s.take m) 0 0 []) = oneEnd l n := by
  unfold oneEnd one1 valOf; rw [hs, h]; simp [hk]
theorem oneEnd_value {l s : List UInt8} {n m : Nat} (hs : l.drop n = s) (h : cut1 s = some (2, m)) (he : (parseV (s.take m)).2.2.2 = 0) : Ending.returned (TV 2 n (s.take m) (parseV (s.take m)).1 (parseV (s.take m)).2.1 (parseV (s.take m)).2.2.1) = oneEnd l n := by
  unfold oneEnd one1 valOf parseO; rw [hs, h]; simp [he]
theorem oneEnd_bad {l s : List UInt8} {n m : Nat} (hs : l.drop n = s) (h : cut1 s = some (2, m)) (he : ¬ (parseV (s.take m)).2.2.2 = 0) : Ending.panicked [{ v := .iface 25 (.int .i64 250), recovered := false }] = oneEnd l n := by
  unfold oneEnd one1 valOf parseO; rw [hs, h]; simp [he]

theorem heap_set6 (w : World) (b : Nat) (x0 x1 x2 x3 x4 x5 y0 y1 y2 y3 y4 y5 : Value) (t : TypeId) (h : w.heap[b]? = some (.cells #[x0, x1, x2, x3, x4, x5] t (0, 0))) :
    ((((((w.setCell ⟨b, 0, none⟩ y0).setCell ⟨b, 1, none⟩ y1).setCell ⟨b, 2, none⟩ y2).setCell ⟨b, 3, none⟩ y3).setCell ⟨b, 4, none⟩ y4).setCell ⟨b, 5, none⟩ y5).heap[b]? = some (.cells #[y0, y1, y2, y3, y4, y5] t (0, 0)) := by
  simp [World.setCell, Array.getElem?_modify, h]
theorem heap_set345 (w : World) (b : Nat) (x0 x1 x2 x3 x4 x5 y3 y4 y5 : Value) (t : TypeId) (h : w.heap[b]? = some (.cells #[x0, x1, x2, x3, x4, x5] t (0, 0))) :
    (((w.setCell ⟨b, 3, none⟩ y3).setCell ⟨b, 4, none⟩ y4).setCell ⟨b, 5, none⟩ y5).heap[b]? = some (.cells #[x0, x1, x2, y3, y4, y5] t (0, 0)) := by
  simp [World.setCell, Array.getElem?_modify, h]
theorem bl_set6 {w W : World} {b : Nat} (h : Bl w W) (hb : w.heap.size ≤ b) (y0 y1 y2 y3 y4 y5 : Value) :
    Bl w ((((((W.setCell ⟨b, 0, none⟩ y0).setCell ⟨b, 1, none⟩ y1).setCell ⟨b, 2, none⟩ y2).setCell ⟨b, 3, none⟩ y3).setCell ⟨b, 4, none⟩ y4).setCell ⟨b, 5, none⟩ y5) :=
  (((((h.set hb _).set hb _).set hb _).set hb _).set hb _).set hb _
/-- A block of six cells, cell by cell. -/
theorem cells6 {W : World} {b : Nat} {x0 x1 x2 x3 x4 x5 : Value} {t : TypeId} (h : W.heap[b]? = some (.cells #[x0, x1, x2, x3, x4, x5] t (0, 0))) :
    (W.cell? ⟨b, 0, none⟩ = some x0 ∧ W.cell? ⟨b, 1, none⟩ = some x1 ∧ W.cell? ⟨b, 2, none⟩ = some x2 ∧ W.cell? ⟨b, 3, none⟩ = some x3 ∧ W.cell? ⟨b, 4, none⟩ = some x4 ∧ W.cell? ⟨b, 5, none⟩ = some x5) ∧
    (W.frozen? ⟨b, 0, none⟩ = false ∧ W.frozen? ⟨b, 1, none⟩ = false ∧ W.frozen? ⟨b, 2, none⟩ = false ∧ W.frozen? ⟨b, 3, none⟩ = false ∧ W.frozen? ⟨b, 4, none⟩ = false ∧ W.frozen? ⟨b, 5, none⟩ = false) :=
  ⟨⟨by rw [Lib.cell_of_heap h]; rfl, by rw [Lib.cell_of_heap h]; rfl, by rw [Lib.cell_of_heap h]; rfl, by rw [Lib.cell_of_heap h]; rfl, by rw [Lib.cell_of_heap h]; rfl, by rw [Lib.cell_of_heap h]; rfl⟩,
    ⟨Lib.frozen_of_heap h 0, Lib.frozen_of_heap h 1, Lib.frozen_of_heap h 2, Lib.frozen_of_heap h 3, Lib.frozen_of_heap h 4, Lib.frozen_of_heap h 5⟩⟩

def TonePost (l : List UInt8) (n : Nat) (w : World) (e : Ending) (w' : World) : Prop := e = oneEnd l n ∧ Bl w w'
theorem tone_ret {a : Act} {W : World} {b : Nat} {k p x y : Int} {t z : List UInt8} {l : List UInt8} {n : Nat} {w : World} (h2 : a.tmps[4]? = some (.pointer (some ⟨b, 0, none⟩))) (hd : a.defers = [])
    (hW : W.heap[b]? = some (.cells #[.int .i64 k, .int .i64 p, S t, .int .i64 x, .int .i64 y, S z] 34 (0, 0))) (hE : Ending.returned (TV k p t x y z) = oneEnd l n) (hb : Bl w W) : bodyPost Tryz.prog Tryz.f36 (TonePost l n w) .ret a W := by
  obtain ⟨⟨q0, q1, q2, q3, q4, q5⟩, -⟩ := cells6 hW
  obtain ⟨t, d⟩ := a
  refine bodyPost_ret (v := TV k p _ x y z) ?_ hd ⟨hE, hb⟩
  simp [results, Tryz.results36, go_sem, q0, q1, q2, q3, q4, q5, h2]

set_option maxHeartbeats 2000000 in
theorem tone_any (l : List UInt8) (n : Nat) (hn : n < l.length) (hl : l.length ≤ 10000) (w : World) (hG : Glob w) : Calls Tryz.prog 36 #[S l, .int .i64 n] w (TonePost l n w) := by
  have HG := Lib.hid hG
  clear hG
  have htail := ext_tail l n
  go_enter Tryz.func36, Tryz.ntmps36
  go_wp2_with fail
  clear htail
  generalize hs : l.drop n = s at *
  have hsl : 1 ≤ s.length ∧ s.length ≤ 10000 := by rw [← hs]; simp; omega
  have HSl := Lib.hid hs
  clear hs
  go_loopw [6] (fun i wr => ∃ k : Nat, 1 ≤ k ∧ k ≤ 4 ∧ i = .int .i64 k ∧ Hid (Tried s k) ∧ Bl w wr ∧ wr.heap[w.heap.size]? = some (.cells #[.int .i64 0, .int .i64 0, .string ⟨#[]⟩, .int .i64 0, .int .i64 0, .string ⟨#[]⟩] 34 (0, 0))) (fun i _ => 4 - (intOf i).toNat)
  case atStart => exact ⟨1, by omega, by omega, rfl, ⟨by omega, by omega, fun j h1 h2 => by omega⟩, (Bl.refl w).alloc _, heap_new w _⟩
  case round =>
    obtain ⟨k, hk1, hk4, rfl, HT, hB, hA⟩ := hrel
    by_cases hk : k < 4
    · have hlook : (Instr.lookup 89 (.map (some wr.heap.size)) (.int .i64 (k : Int)) false).run Tryz.prog (wr.alloc (.map bAll 3)) = .ok (.func (.func (beginF k)) #[] #[]) (wr.alloc (.map bAll 3)) :=
        look_begins (heap_new wr (.map bAll 3)) (by omega) (by omega)
      have hen := enters_beginF k
      go_wp2_with fail
      (with_reducible refine (tbegins_any _).mono ?_)
      rintro e w1 ⟨rfl, rfl⟩
      go_wp2_with fail
      (with_reducible refine (beginF_any k s hsl.1 (by omega) (by omega) _).mono ?_)
      rintro e w2 ⟨rfl, hb2⟩
      have hwr : w.heap.size < wr.heap.size := (Array.getElem?_eq_some_iff.1 hA).1
      have hb3 : Bl wr w2 := ((Bl.refl wr).alloc _).call hb2
      have hA2 := (hb3.block _ hwr).trans hA
      have hB2 := hB.call hb3
      have hG2 := HG.out.bl hB2
      have HG2 := Lib.hid hG2
      clear hlook hen hb2 hb3 hA hB hG2
      cases hbl : blen k s with
      | none => exact ⟨rfl, oneEnd_none HSl.out (HT.out.bad hsl.1 hk hbl), hB2⟩
      | some m =>
        simp only [endN]
        by_cases hm0 : m = 0
        · subst hm0
          have HN := Lib.hid (HT.out.next hk hbl)
          clear hbl
          go_wp2
          go_roundw
          case rel => exact ⟨k + 1, by omega, by omega, by go_num, HN.out, hB2, hA2⟩
          case measure => simp [intOf]; omega
        · have hmb : ((m : Int) == 0) = false := by simpa using hm0
          have hcut : cut1 s = some ((k : Int), m) := by
            obtain ⟨j, rfl⟩ : ∃ j, m = j + 1 := ⟨m - 1, by omega⟩
            exact HT.out.hit hsl.1 hk hbl
          have hml := (cut1_le hcut).2.1
          have HCut := Lib.hid hcut
          clear hbl hcut hm0
          have hhead := ext_head s m
          have hz2 : w.heap.size < w2.heap.size := (Array.getElem?_eq_some_iff.1 hA2).1
          by_cases hk2 : k = 2
          · subst hk2
            have hBt : Bl w2 (w2.alloc (.cells #[.int .i64 2, .int .i64 (n : Int), S (s.take m), .int .i64 0, .int .i64 0, .string ⟨#[]⟩] 34)) := (Bl.refl w2).alloc _
            have hG3 := HG2.out.bl hBt
            have hT3 := heap_new w2 (.cells #[.int .i64 2, .int .i64 (n : Int), S (s.take m), .int .i64 0, .int .i64 0, .string ⟨#[]⟩] 34)
            have hlt3 : (s.take m).length ≤ 10000 := by simp; omega
            go_wp2_with fail
            (with_reducible refine (Parse_any (s.take m) hlt3 _ hG3).mono ?_)
            rintro e w3 ⟨rfl, hb3⟩
            have hT4 := (hb3.block _ (Array.getElem?_eq_some_iff.1 hT3).1).trans hT3
            have hbt := hBt.call hb3
            have hA4 := (hbt.block _ hz2).trans hA2
            have hB4 := hB2.call hbt
            clear hT3 hb3 hBt hbt hG3 hA2 hB2
            have hne : w2.heap.size ≠ w.heap.size := by omega
            generalize w2.heap.size = b8 at *
            have HV : Hid ((parseV (s.take m)).2.2.2 = 0 → Ending.returned (TV 2 n (s.take m) (parseV (s.take m)).1 (parseV (s.take m)).2.1 (parseV (s.take m)).2.2.1) = oneEnd l n) := oneEnd_value HSl.out HCut.out
            have HX : Hid (¬ (parseV (s.take m)).2.2.2 = 0 → Ending.panicked [{ v := .iface 25 (.int .i64 250), recovered := false }] = oneEnd l n) := oneEnd_bad HSl.out HCut.out
            generalize parseV (s.take m) = pv at *
            obtain ⟨p1, p2, p3, pe⟩ := pv
            simp only at HV HX ⊢
            by_cases hpe : pe = 0
            · subst hpe
              have HV2 := Lib.hid (HV.out rfl)
              clear HV HX
              obtain ⟨⟨c0, c1, c2, c3, c4, c5⟩, ⟨f0, f1, f2, f3, f4, f5⟩⟩ := cells6 hA4
              obtain ⟨⟨d0, d1, d2, d3, d4, d5⟩, ⟨g0, g1, g2, g3, g4, g5⟩⟩ := cells6 hT4
              have hlt8 : b8 < w3.heap.size := (Array.getElem?_eq_some_iff.1 hT4).1
              have hltA : w.heap.size < w3.heap.size := by omega
              go_wp2_with (first | (go_at_call 34; (with_reducible refine (tmust_yes _ _).mono ?_); rintro e w' ⟨rfl, rfl⟩))
              clear c0 c1 c2 c3 c4 c5 f0 f1 f2 f3 f4 f5 d0 d1 d2 d3 d4 d5 g0 g1 g2 g3 g4 g5
              have hA5 : (((w3.setCell ⟨b8, 3, none⟩ (.int .i64 p1)).setCell ⟨b8, 4, none⟩ (.int .i64 p2)).setCell ⟨b8, 5, none⟩ (.string ⟨p3.toArray⟩)).heap[w.heap.size]? = _ :=
                (heap_set_other _ ⟨b8, 5, none⟩ _ _ (by simp; omega)).trans ((heap_set_other _ ⟨b8, 4, none⟩ _ _ (by simp; omega)).trans ((heap_set_other _ ⟨b8, 3, none⟩ _ _ (by simp; omega)).trans hA4))
              have hB5 : Bl w (((w3.setCell ⟨b8, 3, none⟩ (.int .i64 p1)).setCell ⟨b8, 4, none⟩ (.int .i64 p2)).setCell ⟨b8, 5, none⟩ (.string ⟨p3.toArray⟩)) := ((hB4.set (by simp; omega) _).set (by simp; omega) _).set (by simp; omega) _
              generalize ((w3.setCell ⟨b8, 3, none⟩ (.int .i64 p1)).setCell ⟨b8, 4, none⟩ (.int .i64 p2)).setCell ⟨b8, 5, none⟩ (.string ⟨p3.toArray⟩) = W5 at *
              have hS6 := heap_set6 W5 w.heap.size _ _ _ _ _ _ (.int .i64 2) (.int .i64 (n : Int)) (.string ⟨(s.take m).toArray⟩) (.int .i64 p1) (.int .i64 p2) (.string ⟨p3.toArray⟩) 34 hA5
              have hB6 := bl_set6 hB5 (Nat.le_refl w.heap.size) (.int .i64 2) (.int .i64 (n : Int)) (.string ⟨(s.take m).toArray⟩) (.int .i64 p1) (.int .i64 p2) (.string ⟨p3.toArray⟩)
              generalize (((((W5.setCell ⟨w.heap.size, 0, none⟩ (.int .i64 2)).setCell ⟨w.heap.size, 1, none⟩ (.int .i64 (n : Int))).setCell ⟨w.heap.size, 2, none⟩ (.string ⟨(s.take m).toArray⟩)).setCell ⟨w.heap.size, 3, none⟩ (.int .i64 p1)).setCell ⟨w.heap.size, 4, none⟩ (.int .i64 p2)).setCell ⟨w.heap.size, 5, none⟩ (.string ⟨p3.toArray⟩) = W6 at *
              exact tone_ret (b := w.heap.size) rfl rfl ((heap_old W6 _ (Array.getElem?_eq_some_iff.1 hS6).1).trans hS6) HV2.out (hB6.alloc _)
            · have hpb : (pe == 0) = false := by simpa using hpe
              have HX2 := Lib.hid (HX.out hpe)
              clear HV HX
              go_wp2_with (first | (go_at_call 34; (with_reducible refine (tmust_no _ _).mono ?_); rintro e w' ⟨rfl, rfl⟩))
              exact ⟨rfl, HX2.out, hB4.alloc _⟩
          · have hkb : ((k : Int) == 2) = false := by simp; omega
            have HK2 : Hid ((k : Int) ≠ 2) := by show (k : Int) ≠ 2; omega
            clear hk2
            obtain ⟨⟨c0, c1, c2, c3, c4, c5⟩, ⟨f0, f1, f2, f3, f4, f5⟩⟩ := cells6 hA2
            go_wp2_with fail
            have hS6 := heap_set6 w2 w.heap.size _ _ _ _ _ _ (.int .i64 (k : Int)) (.int .i64 (n : Int)) (.string ⟨(s.take m).toArray⟩) (.int .i64 0) (.int .i64 0) (.string ⟨#[]⟩) 34 hA2
            have hB6 := bl_set6 hB2 (Nat.le_refl w.heap.size) (.int .i64 (k : Int)) (.int .i64 (n : Int)) (.string ⟨(s.take m).toArray⟩) (.int .i64 0) (.int .i64 0) (.string ⟨#[]⟩)
            generalize (((((w2.setCell ⟨w.heap.size, 0, none⟩ (.int .i64 (k : Int))).setCell ⟨w.heap.size, 1, none⟩ (.int .i64 (n : Int))).setCell ⟨w.heap.size, 2, none⟩ (.string ⟨(s.take m).toArray⟩)).setCell ⟨w.heap.size, 3, none⟩ (.int .i64 0)).setCell ⟨w.heap.size, 4, none⟩ (.int .i64 0)).setCell ⟨w.heap.size, 5, none⟩ (.string ⟨#[]⟩) = W6 at *
            exact tone_ret (b := w.heap.size) rfl rfl ((heap_old W6 _ (Array.getElem?_eq_some_iff.1 hS6).1).trans hS6) (oneEnd_plain HSl.out HCut.out HK2.out) (hB6.alloc _)
    · obtain rfl : k = 4 := by omega
      go_wp2
      exact ⟨rfl, oneEnd_none HSl.out (HT.out.all hsl.1), hB⟩

end Go.Proofs.YtdhaddldmooniaaGreatDoor
