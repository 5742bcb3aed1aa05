/- value.text.cut and value.reader.quotes. -/
import Derived.Test.YtdhaddldmooniaaGreatDoorVG
import Derived.Test.YtdhaddldmooniaaGreatDoorMP
import Derived.Lib.OthersKept
namespace Go.Proofs.YtdhaddldmooniaaGreatDoor
open Go.RowKit
set_option maxRecDepth 100000

theorem CutPrefix_L (a b : List UInt8) (w : World) : Calls Tryz.prog 80 #[S a, S b] w fun e w' => e = .returned (.tuple #[S (Lib.trimPrefix a b), .bool (Lib.hasPrefix a b)]) ∧ w = w' :=
  (Tryz.strings_CutPrefix ⟨a.toArray⟩ ⟨b.toArray⟩ w).mono fun _ _ ⟨he, hw⟩ => ⟨he, hw.symm⟩
theorem CutSuffix_L (a b : List UInt8) (ha : a.length ≤ 1000000) (w : World) : Calls Tryz.prog 126 #[S a, S b] w fun e w' => e = .returned (.tuple #[S (Lib.trimSuffix a b), .bool (Lib.hasSuffix a b)]) ∧ w = w' :=
  (Tryz.strings_CutSuffix ⟨a.toArray⟩ ⟨b.toArray⟩ w (by rw [size_of_list]; omega)).mono fun _ _ ⟨he, hw⟩ => ⟨he, hw.symm⟩
theorem ReplaceAll_pairs (x : UInt8) (l : List UInt8) (hl : l.length ≤ 1000000) (w : World) (hG : Glob w) : Calls Tryz.prog 96 #[S l, S [39, 39], S [x]] w fun e w' => e = .returned (S (pairs x l)) ∧ Bl w w' := by
  obtain ⟨m, hm⟩ := hG.most
  have hsz : (⟨l.toArray⟩ : ByteArray).size = l.length := size_of_list l
  have hct := Lib.countB_le (⟨#[39, 39]⟩ : ByteArray) (by decide) l.length (⟨l.toArray⟩ : ByteArray) (by omega)
  have e1 : (⟨#[x]⟩ : ByteArray).size = 1 := rfl
  refine (Tryz.strings_ReplaceAll ⟨l.toArray⟩ ⟨#[39, 39]⟩ ⟨#[x]⟩ m w (by rw [hsz]; omega) hm (by decide) (by rw [hsz, e1]; omega)).mono ?_
  rintro e w' ⟨rfl, hb⟩
  refine ⟨?_, hb⟩
  rw [show Lib.replaceAll (⟨l.toArray⟩ : ByteArray).data.toList (⟨#[39, 39]⟩ : ByteArray).data.toList (⟨#[x]⟩ : ByteArray).data.toList = pairs x l from replaceAll_pairs x l.length l (Nat.le_refl _)]
theorem trimPrefix_length (a b : List UInt8) : (Lib.trimPrefix a b).length ≤ a.length := by unfold Lib.trimPrefix; split <;> simp

set_option maxHeartbeats 400000 in
theorem cut_ok (p : Addr) (l r : List UInt8) (hl : l.length ≤ 1000000) (w : World) (hc : w.cell? p = some (S l)) (hz : w.frozen? p = false) (h : cutQ l = some r) :
    Calls Tryz.prog 106 #[.pointer (some p), S [39], S [39]] w fun e w' => e = .returned (.tuple #[]) ∧ w' = w.setCell p (S r) := by
  have e := h
  unfold cutQ at e
  split at e
  · rename_i hb
    simp only [Bool.and_eq_true] at hb
    obtain ⟨b1, b2⟩ := hb
    injection e with e
    have E := Lib.hid e
    have H1 := Lib.hid b1
    have H2 := Lib.hid b2
    clear e b1 b2 h
    go_enter Tryz.func106, Tryz.ntmps106
    go_wp2_with fail
    refine (CutPrefix_L l [39] _).mono ?_
    rintro e w' ⟨rfl, rfl⟩
    rw [H1.out]
    go_wp2_with fail
    refine (CutSuffix_L _ [39] (by have := trimPrefix_length l [39]; omega) _).mono ?_
    rintro e w' ⟨rfl, rfl⟩
    rw [H2.out, E.out]
    go_wp2_with (first | (go_at_call 83; (with_reducible refine (must_yes _ _).mono ?_); rintro e w' ⟨rfl, rfl⟩))
    go_end0
    exact ⟨rfl, rfl⟩
  · cases e

set_option maxHeartbeats 400000 in
theorem cut_no (p : Addr) (l : List UInt8) (hl : l.length ≤ 1000000) (w : World) (hc : w.cell? p = some (S l)) (h : cutQ l = none) :
    Calls Tryz.prog 106 #[.pointer (some p), S [39], S [39]] w fun e w' => e = .panicked [{ v := .iface 25 (.int .i64 110), recovered := false }] ∧ w = w' := by
  have e := h
  unfold cutQ at e
  split at e
  · cases e
  rename_i hb
  have hb' : Lib.hasPrefix l [39] = false ∨ Lib.hasSuffix (Lib.trimPrefix l [39]) [39] = false := by
    cases h1 : Lib.hasPrefix l [39] <;> cases h2 : Lib.hasSuffix (Lib.trimPrefix l [39]) [39] <;> simp_all
  have H := Lib.hid hb'
  clear hb hb' e h
  go_enter Tryz.func106, Tryz.ntmps106
  go_wp2_with fail
  refine (CutPrefix_L l [39] _).mono ?_
  rintro e w' ⟨rfl, rfl⟩
  rcases H.out with h1 | h1
  · rw [h1]
    clear h1
    go_wp2_with fail
    refine (CutSuffix_L _ [39] (by have := trimPrefix_length l [39]; omega) _).mono ?_
    rintro e w' ⟨rfl, rfl⟩
    go_wp2_with (first | (go_at_call 83; (with_reducible refine (must_no _ _).mono ?_); rintro e w' ⟨rfl, rfl⟩))
    exact ⟨rfl, rfl, rfl⟩
  · generalize Lib.hasPrefix l [39] = b
    have H1 := Lib.hid h1
    clear h1
    cases b
    all_goals
      go_wp2_with fail
      refine (CutSuffix_L _ [39] (by have := trimPrefix_length l [39]; omega) _).mono ?_
      rintro e w' ⟨rfl, rfl⟩
      rw [H1.out]
      go_wp2_with (first | (go_at_call 83; (with_reducible refine (must_no _ _).mono ?_); rintro e w' ⟨rfl, rfl⟩))
      exact ⟨rfl, rfl, rfl⟩

set_option maxHeartbeats 400000 in
theorem quotes_cut_no (p : Addr) (l : List UInt8) (hl : l.length ≤ 1000000) (w : World) (hc : w.cell? p = some (S l)) (h : cutQ l = none) :
    Calls Tryz.prog 82 #[.pointer (some p)] w fun e w' => e = .panicked [{ v := .iface 25 (.int .i64 110), recovered := false }] ∧ w = w' := by
  have H := Lib.hid h
  clear h
  go_enter Tryz.func82, Tryz.ntmps82
  go_wp2_with fail
  refine (cut_no p l hl _ hc H.out).mono ?_
  rintro e w' ⟨rfl, rfl⟩
  exact ⟨rfl, rfl, rfl⟩

def quoteEnd (r : List UInt8) : Ending := if (pairs 0 r).contains 39 then .panicked [{ v := .iface 25 (.int .i64 110), recovered := false }] else .returned (S (pairs 39 r))
theorem infoRune : (Tryz.prog.info? 21).map (fun i => (i.zero, i.size, i.bytes)) = some (some (.int .i32 0), 1, 4) := by kernel_rfl

set_option maxHeartbeats 1000000 in
theorem quotes_cut (p : Addr) (l r : List UInt8) (hl : l.length ≤ 1000000) (w0 w : World) (hG : Glob w0) (hw0 : Bl w0 w) (hp : w0.heap.size ≤ p.block) (hc : w.cell? p = some (S l)) (hz : w.frozen? p = false) (h : cutQ l = some r) :
    Calls Tryz.prog 82 #[.pointer (some p)] w fun e w' => e = quoteEnd r ∧ Below p.block w w' := by
  have hr := cutQ_length h
  have H := Lib.hid h
  clear h
  have hb0 : Below p.block w (w.setCell p (S r)) := (Below.refl _ w).setCell (Nat.le_refl _) _
  have hG1 : Glob (w.setCell p (S r)) := hG.bl (hw0.set hp _)
  have hc1 := set_same (u := S r) hc
  have hplt : p.block < (w.setCell p (S r)).heap.size := World.block_lt_of_cell? _ _ hc1
  go_enter Tryz.func82, Tryz.ntmps82
  go_wp2_with fail
  refine (cut_ok p l r hl _ hc hz H.out).mono ?_
  rintro e w1 ⟨rfl, rfl⟩
  go_wp2_with fail
  generalize w.setCell p (S r) = w1 at *
  refine (ReplaceAll_pairs 0 r (by omega) _ hG1).mono ?_
  rintro e w2 ⟨rfl, hb2⟩
  have hplt2 : p.block < w2.heap.size := Nat.lt_of_lt_of_le hplt hb2.size
  have hc2 := Bl.cell hb2 hc1
  have hG2 := hG1.bl hb2
  have hs0 := pairs_length 0 r.length r (Nat.le_refl _)
  have hB2 : Below p.block w w2 := hb0.trans (hb2.mono (Nat.le_of_lt hplt))
  generalize hs : pairs 0 r = s0 at *
  have HS := Lib.hid hs
  clear hs
  go_wp2_with fail
  go_loopw [3, 4] (fun v b wr => ∃ (pos : Nat) (xs : List Value), pos ≤ s0.length ∧ b = .bool (odd s0 pos) ∧ wr.heap[w2.heap.size]? = some (.stringIter ⟨s0.toArray⟩ pos) ∧ wr.ownsRow (w2.heap.size + 1) 21 1 v xs.length xs ∧ xs.length ≤ pos ∧ Below w2.heap.size w2 wr) (fun _ _ wr => s0.length - wr.iterPos w2.heap.size)
  case atStart =>
    exact ⟨0, [], Nat.zero_le _, by rw [odd_zero], World.iter_heap _ _ _, ⟨rfl, .inl ⟨rfl, rfl⟩⟩, Nat.le_refl _, (Bl.refl w2).alloc _⟩
  case round =>
    obtain ⟨pos, xs, hpos, rfl, hit, hown, hxs, hB⟩ := hrel
    by_cases hlt : pos < s0.length
    · have hnx := Lib.run_next_any_at (P := Tryz.prog) wr w2.heap.size ⟨s0.toArray⟩ pos 0 hit (by rw [size_of_list]; exact hlt)
      obtain ⟨q1, q2, _, _⟩ := decode_quote s0 pos hlt
      have q3 := odd_next s0 pos hlt
      have hit' := Lib.iterAt_heap wr w2.heap.size ⟨s0.toArray⟩ pos (pos + (Utf8.decode ⟨s0.toArray⟩ pos).2) hit
      have hown' := ownsRow_iterAt hown (k := w2.heap.size) (by omega) ⟨s0.toArray⟩ (pos + (Utf8.decode ⟨s0.toArray⟩ pos).2)
      have hB' := Lib.below_iterAt hB (k := w2.heap.size) (Nat.le_refl _) ⟨s0.toArray⟩ (pos + (Utf8.decode ⟨s0.toArray⟩ pos).2)
      generalize wr.iterAt w2.heap.size ⟨s0.toArray⟩ (pos + (Utf8.decode ⟨s0.toArray⟩ pos).2) = wn at *
      generalize (Utf8.decode ⟨s0.toArray⟩ pos).2 = d2 at *
      generalize (Utf8.decode ⟨s0.toArray⟩ pos).1 = d1 at *
      have Q3 := Lib.hid q3
      have HIT := Lib.hid hit
      clear q3 hown hB hit
      have hwn : w2.heap.size + 1 ≤ wn.heap.size := (Array.getElem?_eq_some_iff.1 hit').1
      obtain ⟨i0, hi, hz0, hz1, hz2⟩ := info_parts infoRune
      by_cases hq : d1 = 39
      all_goals
        first
          | (have hqb : ((d1 : Int) == 39) = true := by simp [hq])
          | (have hqb : ((d1 : Int) == 39) = false := by simp; omega)
        have HQ := Lib.hid hq
        clear hq
        go_wp2_with (at_builtin; refine wpList_append_own _ rfl _ _ 144 rfl (w2.heap.size + 1) 21 i0 (.int .i32 0) 1 4 Tryz.underlying144 hi hz0 hz1 hz2 rfl (by decide) _ _ _ rfl (hown'.alloc _) ⟨wn.heap.size, 0, none⟩ 1 1 [.int .i32 d1] rfl rfl (cell_one_new _ _ _) (by simp [Value.oneCell']) (by unfold maxLen; omega) (by omega) (by simp; omega) ?_; intro v' w4 hown4 hgrow _)
        have hit4 : w4.heap[w2.heap.size]? = some (.stringIter ⟨s0.toArray⟩ (pos + d2)) := by
          rw [hgrow.block _ (by simp; omega) (fun e => ownsRow_apart hown' (k := w2.heap.size) (by omega) e.symm), heap_old _ _ (by omega)]
          exact hit'
        have hB4 : Below w2.heap.size w2 w4 := (hB'.alloc hB'.size _).grown hgrow (by have := hB'.size; simp; omega) (fun j hj => by have := (hown'.lt j hj).1; omega)
        go_wp2
        go_roundw
        case rel =>
          refine ⟨pos + d2, xs ++ [.int .i32 d1], q2, ?_, hit4, by simpa using hown4, by simp; omega, hB4⟩
          rw [Q3.out]
          simp [HQ.out]
        case measure =>
          simp only [World.iterPos, hit4, HIT.out]
          omega
    · obtain rfl : pos = s0.length := by omega
      have hnx := Lib.run_next_end_at (P := Tryz.prog) wr w2.heap.size ⟨s0.toArray⟩ s0.length 0 hit (by rw [size_of_list]; omega)
      have hcr : wr.cell? p = some (S r) := Bl.cell hB hc2
      have hGr := hG2.bl hB
      have hBr : Below p.block w wr := hB2.trans (hB.mono (Nat.le_of_lt hplt2))
      have hprt : p.block ≤ wr.heap.size := Nat.le_trans (Nat.le_of_lt hplt2) hB.size
      obtain ⟨ao, cap, rfl⟩ : ∃ ao cap, u3 = .slice ao xs.length cap := by
        rcases hown.2 with ⟨h1, h2⟩ | ⟨g, cap, cur, h1, _⟩
        · exact ⟨none, 0, by rw [h1, h2]⟩
        · exact ⟨_, cap, h1⟩
      have hle : decide (xs.length ≤ r.length) = true := by simp; omega
      rw [odd_all]
      clear hown hit hpos hlt
      cases hcon : s0.contains 39
      · have HC := Lib.hid hcon
        clear hcon
        go_wp2_with (first | (go_at_call 83; (with_reducible refine (must_yes _ _).mono ?_); rintro e w' ⟨rfl, rfl⟩))
        refine (ReplaceAll_pairs 39 r (by omega) _ hGr).mono ?_
        rintro e w5 ⟨rfl, hb5⟩
        go_wp2
        go_ret
        exact ⟨by unfold quoteEnd; rw [HS.out, HC.out]; rfl, hBr.trans (hb5.mono hprt)⟩
      · have HC := Lib.hid hcon
        clear hcon
        go_wp2_with (first | (go_at_call 83; (with_reducible refine (must_no _ _).mono ?_); rintro e w' ⟨rfl, rfl⟩))
        exact ⟨rfl, by unfold quoteEnd; rw [HS.out, HC.out]; rfl, hBr⟩

end Go.Proofs.YtdhaddldmooniaaGreatDoor
