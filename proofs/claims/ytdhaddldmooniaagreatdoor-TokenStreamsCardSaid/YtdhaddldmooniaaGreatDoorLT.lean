/- TokenHolds: the walk. -/
import Derived.Test.YtdhaddldmooniaaGreatDoorMW
import Derived.Test.YtdhaddldmooniaaGreatDoorMP
namespace Go.Proofs.YtdhaddldmooniaaGreatDoor
open Go.RowKit
set_option maxRecDepth 100000

def Yes (w : World) (e : Ending) (w' : World) : Prop := e = .returned (.bool true) ∧ Bl w w'

/-- A row of tokens in block g. -/
def Row (W : World) (g : Nat) (l : List Tok) : Prop := ∀ j (h : j < l.length), At6 W g j l[j]
theorem Row.bl {W W' : World} {g : Nat} {l : List Tok} (h : Row W g l) (hb : Bl W W') : Row W' g l := fun j hj => (h j hj).bl hb
theorem At6.block {W W' : World} {g j : Nat} {x : Tok} (h : At6 W g j x) (hb : W'.heap[g]? = W.heap[g]?) : At6 W' g j x := by
  have c : ∀ o v, W.cell? ⟨g, o, none⟩ = some v → W'.cell? ⟨g, o, none⟩ = some v := fun o v hv => by rw [World.cell?_of_block (w := W) hb]; exact hv
  exact ⟨c _ _ h.1, c _ _ h.2.1, c _ _ h.2.2.1, c _ _ h.2.2.2.1, c _ _ h.2.2.2.2.1, c _ _ h.2.2.2.2.2⟩
theorem Row.block {W W' : World} {g : Nat} {l : List Tok} (h : Row W g l) (hb : W'.heap[g]? = W.heap[g]?) : Row W' g l := fun j hj => (h j hj).block hb
theorem Row.set_other {W : World} {g : Nat} {l : List Tok} (h : Row W g l) {p : Addr} (hp : g ≠ p.block) (v : Value) : Row (W.setCell p v) g l := h.block (Below.heap_setCell _ _ _ _ hp)
/-- The last token's place is struck. -/
theorem Row.strike {W : World} {g n N : Nat} {ts : List Tok} (h : Row W g (ts ++ [endTok N])) (hn : ts.length = n) : Row (W.setCell ⟨g, n * 6 + 1, none⟩ (.int .i64 0)) g (ts ++ [endTok 0]) := by
  subst hn
  intro j hj
  have hj' : j < (ts ++ [endTok N]).length := by simpa using hj
  have h6 := h j hj'
  by_cases e : j = ts.length
  · subst e
    have e1 : (ts ++ [endTok N])[ts.length] = endTok N := by simp
    have e2 : (ts ++ [endTok 0])[ts.length] = endTok 0 := by simp
    rw [e1] at h6
    rw [e2]
    exact ⟨set_far h6.1 (by simp), set_same h6.2.1, set_far h6.2.2.1 (by simp), set_far h6.2.2.2.1 (by simp), set_far h6.2.2.2.2.1 (by simp), set_far h6.2.2.2.2.2 (by simp)⟩
  · have hl : j < ts.length := by simp at hj; omega
    have e1 : (ts ++ [endTok N])[j] = ts[j] := by rw [List.getElem_append_left hl]
    have e2 : (ts ++ [endTok 0])[j] = ts[j] := by rw [List.getElem_append_left hl]
    rw [e1] at h6
    rw [e2]
    refine ⟨set_far h6.1 ?_, set_far h6.2.1 ?_, set_far h6.2.2.1 ?_, set_far h6.2.2.2.1 ?_, set_far h6.2.2.2.2.1 ?_, set_far h6.2.2.2.2.2 ?_⟩ <;> (intro e; injection e with _ e _; omega)

theorem own_cap {W : World} {base : Nat} {e : TypeId} {size g n cap : Nat} {xs : List Value} (h : W.ownsRow base e size (.slice (some ⟨g, 0, none⟩) n cap) n xs) : n ≤ cap := by
  rcases h.2 with ⟨h0, _⟩ | ⟨g', cap', cur, h0, _, _, hn, _⟩
  · cases h0
  · injection h0 with _ _ h3; subst h3; exact hn
theorem Row.cellAdd {W : World} {g : Nat} {l : List Tok} (h : Row W g l) : ∀ j u, (rowOf l)[j]? = some u → W.cell? ((⟨g, 0, none⟩ : Addr).add j) = some u := by
  intro j u hj
  have hl := (List.getElem?_eq_some_iff.1 hj).1
  rw [rowOf_length] at hl
  obtain ⟨q, r, hr, rfl⟩ : ∃ q r, r < 6 ∧ j = q * 6 + r := ⟨j / 6, j % 6, by omega, by omega⟩
  have hd : q < l.length := by omega
  obtain ⟨a0, a1, a2, a3, a4, a5⟩ := h q hd
  rw [row_at l q hd r hr] at hj
  rw [show (⟨g, 0, none⟩ : Addr).add (q * 6 + r) = ⟨g, q * 6 + r, none⟩ by simp [Addr.add]; omega]
  match r, hr with
  | 0, _ => simp only [tokCells, List.getElem?_cons_zero, Option.some.injEq] at hj; subst hj; exact a0
  | 1, _ => simp only [tokCells, List.getElem?_cons_zero, List.getElem?_cons_succ, Option.some.injEq] at hj; subst hj; exact a1
  | 2, _ => simp only [tokCells, List.getElem?_cons_zero, List.getElem?_cons_succ, Option.some.injEq] at hj; subst hj; exact a2
  | 3, _ => simp only [tokCells, List.getElem?_cons_zero, List.getElem?_cons_succ, Option.some.injEq] at hj; subst hj; exact a3
  | 4, _ => simp only [tokCells, List.getElem?_cons_zero, List.getElem?_cons_succ, Option.some.injEq] at hj; subst hj; exact a4
  | 5, _ => simp only [tokCells, List.getElem?_cons_zero, List.getElem?_cons_succ, Option.some.injEq] at hj; subst hj; exact a5
theorem Row.take {W : World} {g : Nat} {l : List Tok} {x : Tok} (h : Row W g (l ++ [x])) : Row W g l := fun j hj => by
  have := h j (by simp; omega)
  rw [List.getElem_append_left hj] at this
  exact this
theorem row_one (l : List Tok) : ∀ u ∈ rowOf l, u.oneCell' = true := by
  intro u hu
  simp only [rowOf, List.mem_flatMap, tokCells, List.mem_cons, List.mem_nil_iff, or_false] at hu
  obtain ⟨x, _, h⟩ := hu
  rcases h with rfl | rfl | rfl | rfl | rfl | rfl <;> rfl
theorem rowOf_app (a b : List Tok) : rowOf (a ++ b) = rowOf a ++ rowOf b := by simp [rowOf]
theorem own_empty (W : World) : (W.alloc (.cells #[] 34)).ownsRow W.heap.size 34 6 (.slice (some ⟨W.heap.size, 0, none⟩) 0 0) 0 [] :=
  ⟨rfl, .inr ⟨W.heap.size, 0, #[], rfl, Nat.le_refl _, heap_new W _, Nat.le_refl _, by unfold maxLen; omega, rfl, rfl⟩⟩
theorem append_bl {W W' : World} (h : (W.alloc (.cells #[] 34)).grownBy W' (Value.slice (some ⟨W.heap.size, 0, none⟩) 0 0).ownBlock) : Bl W W' :=
  Below.grown ((Bl.refl W).alloc _) h (by simp) (fun j hj => ((own_empty W).lt j hj).1)
theorem append_own {W : World} {base : Nat} {e : TypeId} {size n : Nat} {v : Value} {xs : List Value} (h : W.ownsRow base e size v (0 + n) ([] ++ xs)) : W.ownsRow base e size v n xs := by
  rw [Nat.zero_add, List.nil_append] at h; exact h
theorem append_bl2 {W W5 W' : World} {v : Value} {n : Nat} {xs : List Value} (hb : Bl W W5) (ho : W5.ownsRow W.heap.size 34 6 v n xs) (h : W5.grownBy W' v.ownBlock) : Bl W W' :=
  Below.grown hb h hb.size (fun j hj => (ho.lt j hj).1)
theorem append_own2 {W : World} {base : Nat} {v : Value} {n : Nat} {a b : List Tok} (h : W.ownsRow base 34 6 v n (rowOf a ++ rowOf b)) : W.ownsRow base 34 6 v n (rowOf (a ++ b)) := by
  rw [rowOf_app]; exact h
theorem end_cell {W : World} {g : Nat} {ts : List Tok} {N : Nat} (h : Row W g (ts ++ [endTok N])) : W.cell? ⟨g, ts.length * 6 + 1, none⟩ = some (.int .i64 (N : Int)) := by
  have := (h ts.length (by simp)).2.1
  simpa [endTok] using this
theorem bare_end {a b : List Tok} (h : a.map Tok.bare = b.map Tok.bare) (N M : Nat) : (a ++ [endTok N]).map Tok.bare = (b ++ [endTok M]).map Tok.bare := by
  simp only [List.map_append, h]
  rfl

theorem app_str (a b : List UInt8) : (⟨a.toArray⟩ : ByteArray) ++ (⟨b.toArray⟩ : ByteArray) = ⟨(a ++ b).toArray⟩ := by
  apply ByteArray.ext
  simp

theorem same15_eq (g g' n n' cap cap' : Nat) (la lb : List Tok) (ha : la.length = n) (hnn : n' = n) (hn : n ≤ 100000) (he : la.map Tok.bare = lb.map Tok.bare) (w : World) (hA : Row w g la) (hB : Row w g' lb) :
    Calls Tryz.prog 8 #[.slice (some ⟨g, 0, none⟩) n cap, .slice (some ⟨g', 0, none⟩) n' cap', .bool false] w fun e w' => e = .returned (.bool true) ∧ Bl w w' := by
  subst hnn
  exact same15_any g g' n' cap cap' la lb ha (by have := congrArg List.length he; simp at this; omega) hn he w hA hB

theorem holds_s (la : List UInt8) (ta : List Tok) (h : toksO la = some ta) : ∃ tc, toksO (blanked ta) = some tc ∧ tc.map Tok.bare = ta.map Tok.bare :=
  toks_blanked la.length (blanked ta).length la.length la (Nat.le_refl _) ta h
theorem holds_d (la lb : List UInt8) (ta tb : List Tok) (h : toksO la = some ta) (h' : toksO lb = some tb) : ∃ td, toksO (la ++ 10 :: lb) = some td ∧ td.map Tok.bare = (ta ++ tb).map Tok.bare := by
  obtain ⟨l1, h1, e1⟩ := toks_line (parse := parseO) la.length (la ++ 10 :: lb).length lb la.length la (Nat.le_refl _) ta h
  obtain ⟨l2, h2, e2⟩ := toks_pos (parse := parseO) lb.length (la ++ 10 :: lb).length lb.length lb (Nat.le_refl _) tb h'
  refine ⟨l1 ++ l2, ?_, by simp [e1, e2]⟩
  unfold toksO
  rw [h1, h2]
  rfl

theorem allErr_small (l : List UInt8) (h : l.length ≤ 4000) : (toksO l ≠ none ∧ allErr l = 0) ∨ (toksO l = none ∧ allErr l = 250) := by
  unfold allErr
  rw [if_neg (by omega)]
  by_cases h0 : toksO l = none
  · right; rw [if_pos h0]; exact ⟨h0, rfl⟩
  · left; rw [if_neg h0]; exact ⟨h0, rfl⟩
set_option maxHeartbeats 4000000 in
theorem holds15_bad (la lb : List UInt8) (hla : la.length ≤ 1500) (hlb : lb.length ≤ 1500) (hbad : toksO la = none ∨ toksO lb = none) (w : World) (hG : Glob w) : Calls Tryz.prog 3 #[.agg #[S la, S lb]] w (Yes w) := by
  have HG := Lib.hid hG
  have HBad := Lib.hid hbad
  clear hG hbad
  have hB0 : Bl w (w.alloc (.cells #[S la, S lb] 22)) := (Bl.refl w).alloc _
  have hA0 := heap_new w (.cells #[S la, S lb] 22)
  have d0 : decide (1500 < (la.length : Int)) = false := by simp; omega
  have d1 : decide (1500 < (lb.length : Int)) = false := by simp; omega
  have ea : (toksO la ≠ none ∧ allErr la = 0) ∨ (toksO la = none ∧ allErr la = 250) := allErr_small la (by omega)
  have eb : (toksO lb ≠ none ∧ allErr lb = 0) ∨ (toksO lb = none ∧ allErr lb = 250) := allErr_small lb (by omega)
  have hsum : (allErr la + allErr lb = 250 ∨ allErr la + allErr lb = 500) ∧ 0 ≤ allErr la ∧ allErr la ≤ 250 ∧ 0 ≤ allErr lb ∧ allErr lb ≤ 250 := by
    rcases ea with ⟨h1, h2⟩ | ⟨h1, h2⟩ <;> rcases eb with ⟨h3, h4⟩ | ⟨h3, h4⟩ <;> rw [h2, h4]
    · rcases HBad.out with h | h
      · exact absurd h h1
      · exact absurd h h3
    · omega
    · omega
    · omega
  clear ea eb HBad
  go_enter Tryz.func3, Tryz.ntmps3
  go_wp2_with fail
  clear d0 d1
  (with_reducible refine (tAll_any la (by omega) _ (HG.out.bl hB0)).mono ?_)
  rintro e w1 ⟨va, rfl, hb1, -, -⟩
  have hA1 := (hb1.block _ (by simp)).trans hA0
  have hB1 := hB0.call hb1
  clear hA0 hB0 hb1
  have q0 : w1.cell? ⟨w.heap.size, 0, none⟩ = some (S la) := by rw [Lib.cell_of_heap hA1]; rfl
  have q1 : w1.cell? ⟨w.heap.size, 1, none⟩ = some (S lb) := by rw [Lib.cell_of_heap hA1]; rfl
  go_wp2_with fail
  (with_reducible refine (tAll_any lb (by omega) _ (HG.out.bl hB1)).mono ?_)
  rintro e w2 ⟨vb, rfl, hb2, -, -⟩
  have hB2 := hB1.call hb2
  generalize allErr la = x at *
  generalize allErr lb = y at *
  have hne : (x + y != 0) = true := by simp; omega
  have hne' : (x + y == 0) = false := by simp; omega
  have hG2 := HG.out.bl hB2
  go_wp2_with (first
    | (go_at_call 7; (with_reducible refine (num15_any _ _).mono ?_); rintro e w' ⟨rfl, rfl⟩)
    | (go_at_call 5; (with_reducible refine (works15_any _ hG2).mono ?_); rintro e w3 ⟨rfl, hb3⟩))
  go_ret
  exact ⟨rfl, hB2.call hb3⟩

set_option maxHeartbeats 4000000 in
theorem holds15_any (la lb : List UInt8) (hla : la.length ≤ 1500) (hlb : lb.length ≤ 1500) (ta tb : List Tok) (hta : toksO la = some ta) (htb : toksO lb = some tb) (w : World) (hG : Glob w) : Calls Tryz.prog 3 #[.agg #[S la, S lb]] w (Yes w) := by
  have HG := Lib.hid hG
  have HTA := Lib.hid hta
  have HTB := Lib.hid htb
  clear hG hta htb
  have hB0 : Bl w (w.alloc (.cells #[S la, S lb] 22)) := (Bl.refl w).alloc _
  have hA0 := heap_new w (.cells #[S la, S lb] 22)
  have d0 : decide (1500 < (la.length : Int)) = false := by simp; omega
  have d1 : decide (1500 < (lb.length : Int)) = false := by simp; omega
  go_enter Tryz.func3, Tryz.ntmps3
  go_wp2_with fail
  clear d0 d1
  (with_reducible refine (All_good la (by omega) ta HTA.out _ (HG.out.bl hB0)).mono ?_)
  rintro e w1 ⟨ga, capa, rfl, hb1, hga, hoa⟩
  have hA1 := (hb1.block _ (by simp)).trans hA0
  have hB1 := hB0.call hb1
  have HRa : Hid (Row w1 ga (ta ++ [endTok la.length])) := got_at hoa
  have hlt1 : ga < w1.heap.size := (hoa.lt ga rfl).2
  have hcapa := own_cap hoa
  rw [World.size_alloc] at hga
  clear hA0 hB0 hb1 hoa
  have q0 : w1.cell? ⟨w.heap.size, 0, none⟩ = some (S la) := by rw [Lib.cell_of_heap hA1]; rfl
  have q1 : w1.cell? ⟨w.heap.size, 1, none⟩ = some (S lb) := by rw [Lib.cell_of_heap hA1]; rfl
  go_wp2_with fail
  (with_reducible refine (All_good lb (by omega) tb HTB.out _ (HG.out.bl hB1)).mono ?_)
  rintro e w2 ⟨gb, capb, rfl, hb2, hgb, hob⟩
  have hA2 := (hb2.block _ (Array.getElem?_eq_some_iff.1 hA1).1).trans hA1
  have hB2 := hB1.call hb2
  have HRa2 := Lib.hid (HRa.out.bl hb2)
  have HRb : Hid (Row w2 gb (tb ++ [endTok lb.length])) := got_at hob
  have hlt2 : gb < w2.heap.size := (hob.lt gb rfl).2
  have hsz2 : w1.heap.size ≤ w2.heap.size := hb2.size
  clear hb2 hob hA1 hB1 HRa q0 q1
  have hbl := blanked_length (parse := parseO) la.length la.length la (Nat.le_refl _) ta HTA.out
  have hblb := blanked_length (parse := parseO) lb.length lb.length lb (Nat.le_refl _) tb HTB.out
  have ha0 : (((ta.length : Int) + 1) == 0) = false := by simp; omega
  have hb0 : (((tb.length : Int) + 1) == 0) = false := by simp; omega
  go_wp2_with (first
    | (go_at_call 7; (with_reducible refine (num15_any _ _).mono ?_); rintro e w' ⟨rfl, rfl⟩))
  clear ha0 hb0
  go_loop [7, 8] (fun s i => ∃ k : Nat, k ≤ ta.length ∧ s = S (blanked (ta.take k)) ∧ i = .int .i64 k) (fun _ i => ta.length - (intOf i).toNat)
  case atStart => exact ⟨0, by omega, rfl, rfl⟩
  case round =>
    obtain ⟨k, hk, rfl, rfl⟩ := hrel
    by_cases hlt : k < ta.length
    · have hcell : w2.cell? ⟨ga, k * 6 + 2, none⟩ = some (S ta[k].t) := by
        have := (HRa2.out k (by simp; omega)).2.2.1
        rw [List.getElem_append_left hlt] at this
        exact this
      have HT := Lib.hid (blanked_take hlt)
      have hm := blanked_mono ta k
      have hm1 := blanked_mono ta (k + 1)
      rw [HT.out] at hm1
      simp only [List.length_append, List.length_singleton] at hm1
      have hlt' : (k : Int) + 1 < (ta.length : Int) + 1 := by omega
      go_wp2
      go_round
      case rel => exact ⟨k + 1, by omega, by rw [HT.out, ← List.append_assoc]; exact congrArg Value.string (by rw [app_str]; exact app_str _ _), by go_num⟩
      case measure => simp [intOf]; omega
    · obtain rfl : k = ta.length := by omega
      rw [List.take_length]
      obtain ⟨tc, htc, hec⟩ := holds_s la ta HTA.out
      obtain ⟨td, htd, hed⟩ := holds_d la lb ta tb HTA.out HTB.out
      have HTC := Lib.hid htc
      have HTD := Lib.hid htd
      have HEC := Lib.hid hec
      have HED := Lib.hid hed
      have hlc : tc.length = ta.length := by have := congrArg List.length hec; simpa using this
      have hld : td.length = ta.length + tb.length := by have := congrArg List.length hed; simpa using this
      have htc15 : tc.length ≤ 1500 := by omega
      have htd30 : td.length ≤ 3000 := by omega
      have HLC := Lib.hid hlc
      have HLD := Lib.hid hld
      clear htc htd hec hed hlc hld
      have q0 : w2.cell? ⟨w.heap.size, 0, none⟩ = some (S la) := by rw [Lib.cell_of_heap hA2]; rfl
      have q1 : w2.cell? ⟨w.heap.size, 1, none⟩ = some (S lb) := by rw [Lib.cell_of_heap hA2]; rfl
      have hle0 : ¬ ((ta.length : Int) + 1 < (ta.length : Int) + 1) := by omega
      have hG2 := HG.out.bl hB2
      go_wp2_with fail
      (with_reducible refine (All_good (blanked ta) (by omega) tc HTC.out _ hG2).mono ?_)
      rintro e w3 ⟨gc, capc, rfl, hb3, hgc, hoc⟩
      have hA3 := (hb3.block _ (Array.getElem?_eq_some_iff.1 hA2).1).trans hA2
      have hB3 := hB2.call hb3
      have HRa3 := Lib.hid (HRa2.out.bl hb3)
      have HRb3 := Lib.hid (HRb.out.bl hb3)
      have HRc3 : Hid (Row w3 gc (tc ++ [endTok (blanked ta).length])) := got_at hoc
      have hlt3 : gc < w3.heap.size := (hoc.lt gc rfl).2
      have hsz3 : w2.heap.size ≤ w3.heap.size := hb3.size
      have HOc := Lib.hid hoc
      clear hb3 hoc hA2 hB2 HRa2 HRb q0 q1 hG2 hle0
      have q0 : w3.cell? ⟨w.heap.size, 0, none⟩ = some (S la) := by rw [Lib.cell_of_heap hA3]; rfl
      have q1 : w3.cell? ⟨w.heap.size, 1, none⟩ = some (S lb) := by rw [Lib.cell_of_heap hA3]; rfl
      have happ : ((⟨la.toArray⟩ : ByteArray) ++ (⟨#[10]⟩ : ByteArray) ++ (⟨lb.toArray⟩ : ByteArray)) = ⟨(la ++ 10 :: lb).toArray⟩ := by
        rw [show (⟨#[10]⟩ : ByteArray) = ⟨[10].toArray⟩ from rfl, app_str, app_str, List.append_assoc]; rfl
      have hG3 := HG.out.bl hB3
      have hl4 : (la ++ 10 :: lb).length ≤ 4000 := by simp; omega
      go_wp2_with fail
      (with_reducible refine (All_good (la ++ 10 :: lb) hl4 td HTD.out _ hG3).mono ?_)
      rintro e w4 ⟨gd, capd, rfl, hb4, hgd, hod⟩
      have hB4 := hB3.call hb4
      have HRa4 := Lib.hid (HRa3.out.bl hb4)
      have HRb4 := Lib.hid (HRb3.out.bl hb4)
      have HRc4 := Lib.hid (HRc3.out.bl hb4)
      have HRd4 : Hid (Row w4 gd (td ++ [endTok (la ++ 10 :: lb).length])) := got_at hod
      have HOc4 := Lib.hid (ownsRow_bl hb4 HOc.out)
      have HOd4 := Lib.hid hod
      have hlt4 : gd < w4.heap.size := (hod.lt gd rfl).2
      have hsz4 : w3.heap.size ≤ w4.heap.size := hb4.size
      clear hb4 hod hA3 hB3 HRa3 HRb3 HRc3 q0 q1 hG3 happ hl4 HOc
      obtain ⟨i0, hi, hz0, hz1, hz2⟩ := info_parts infoTok
      have HOW := Lib.hid (own_empty w4)
      have HN1 := Lib.hid ((HRa4.out.take.bl ((Bl.refl w4).alloc (.cells #[] 34))).cellAdd)
      go_wp2_with (first
        | (go_at_call 7; (with_reducible refine (num15_any _ _).mono ?_); rintro e w' ⟨rfl, rfl⟩)
        | (at_builtin; refine wpList_append_own _ rfl (.tmp 104) (.tmp 109) 24 rfl w4.heap.size 34 i0 (.agg #[.int .i64 0, .int .i64 0, .string ⟨#[]⟩, .int .i64 0, .int .i64 0, .string ⟨#[]⟩]) 6 64 Tryz.underlying24 hi hz0 hz1 hz2 rfl (by decide) (.slice (some ⟨w4.heap.size, 0, none⟩) 0 0) 0 [] rfl HOW.out ⟨ga, 0, none⟩ ta.length capa (rowOf ta) rfl (rowOf_length ta) HN1.out (row_one ta) (by unfold maxLen; omega) (by omega) (by simp) ?_; intro v5 w5 hown5 hgrow5 _; have hb5 : Bl w4 w5 := append_bl hgrow5; have HO5 := Lib.hid (append_own hown5); have HN2 := Lib.hid ((HRb4.out.bl hb5).cellAdd); have hsz5 := hb5.size; clear hown5 hgrow5)
        | (at_builtin; refine wpList_append_own _ rfl (.tmp 110) (.tmp 111) 24 rfl w4.heap.size 34 i0 (.agg #[.int .i64 0, .int .i64 0, .string ⟨#[]⟩, .int .i64 0, .int .i64 0, .string ⟨#[]⟩]) 6 64 Tryz.underlying24 hi hz0 hz1 hz2 rfl (by decide) v5 ta.length (rowOf ta) rfl HO5.out ⟨gb, 0, none⟩ (tb.length + 1) capb (rowOf (tb ++ [endTok lb.length])) rfl (by rw [rowOf_length]; simp) HN2.out (row_one _) (by unfold maxLen; omega) (by omega) (by omega) ?_; intro v6 w6 hown6 hgrow6 _; have hb6 : Bl w4 w6 := append_bl2 hb5 HO5.out hgrow6; have HO6 := Lib.hid (append_own2 hown6); have x1 := end_cell (HRc4.out.bl hb6); have z1 := (ownsRow_bl hb6 HOc4.out).frozenAt (tc.length * 6 + 1); have x2 := end_cell (HRd4.out.bl hb6); have z2 := (ownsRow_bl hb6 HOd4.out).frozenAt (td.length * 6 + 1); have hne : gc ≠ gd := (by omega); have hne' : gd ≠ gc := (by omega); clear hown6 hgrow6))
      have hsz6 := hb6.size
      obtain ⟨gw, capw, rfl⟩ := own_slice (k := ta.length + tb.length) HO6.out
      have hgw := (HO6.out.lt gw rfl).1
      have hgw6 := (HO6.out.lt gw rfl).2
      have rW : Row w6 gw (ta ++ (tb ++ [endTok lb.length])) := own_at (by
        have e : ta.length + (tb.length + 1) = (ta ++ (tb ++ [endTok lb.length])).length := by simp
        have e1 : ta.length + tb.length + 1 = (ta ++ (tb ++ [endTok lb.length])).length := by simp; omega
        have := HO6.out
        rw [e, e1] at this
        exact this)
      have rA := HRa4.out.bl hb6
      have rC := HRc4.out.bl hb6
      have rD := HRd4.out.bl hb6
      have sC := ((rC.strike rfl).set_other (p := ⟨gd, td.length * 6 + 1, none⟩) (by simp; omega) (.int .i64 0))
      have sD := ((rD.set_other (p := ⟨gc, tc.length * 6 + 1, none⟩) (by simp; omega) (.int .i64 0)).strike rfl)
      have sA := ((rA.set_other (p := ⟨gc, tc.length * 6 + 1, none⟩) (by simp; omega) (.int .i64 0)).set_other (p := ⟨gd, td.length * 6 + 1, none⟩) (by simp; omega) (.int .i64 0))
      have sW := ((rW.set_other (p := ⟨gc, tc.length * 6 + 1, none⟩) (by simp; omega) (.int .i64 0)).set_other (p := ⟨gd, td.length * 6 + 1, none⟩) (by simp; omega) (.int .i64 0))
      have hB6 : Bl w ((w6.setCell ⟨gc, tc.length * 6 + 1, none⟩ (.int .i64 0)).setCell ⟨gd, td.length * 6 + 1, none⟩ (.int .i64 0)) :=
        ((hB4.call hb6).set (by simp; omega) _).set (by simp; omega) _
      clear x1 x2 z1 z2 rA rC rD rW
      generalize (w6.setCell ⟨gc, tc.length * 6 + 1, none⟩ (.int .i64 0)).setCell ⟨gd, td.length * 6 + 1, none⟩ (.int .i64 0) = W at *
      have HsC := Lib.hid sC
      have HsD := Lib.hid sD
      have HsA := Lib.hid sA
      have HsW := Lib.hid sW
      clear sC sD sA sW
      have hlc' := HLC.out
      have hld' := HLD.out
      (with_reducible refine (same15_eq gc ga (tc.length + 1) (ta.length + 1) capc capa (tc ++ [endTok 0]) (ta ++ [endTok la.length]) (by simp) (by omega) (by omega) (bare_end HEC.out _ _) _ HsC.out HsA.out).mono ?_)
      rintro e W1 ⟨rfl, hb7⟩
      clear hlc' hld'
      go_wp2_with fail
      have hld' := HLD.out
      (with_reducible refine (same15_eq gd gw (td.length + 1) (ta.length + tb.length + 1) capd capw (td ++ [endTok 0]) (ta ++ (tb ++ [endTok lb.length])) (by simp) (by omega) (by omega) (by rw [← List.append_assoc]; exact bare_end HED.out _ _) _ (HsD.out.bl hb7) (HsW.out.bl hb7)).mono ?_)
      rintro e W2 ⟨rfl, hb8⟩
      clear hld'
      have hB8 := (hB6.call hb7).call hb8
      have hG8 := HG.out.bl hB8
      go_wp2_with fail
      (with_reducible refine (works15_any _ hG8).mono ?_)
      rintro e W3 ⟨rfl, hb9⟩
      go_wp2
      go_ret
      exact ⟨rfl, hB8.call hb9⟩

set_option maxHeartbeats 2000000 in
theorem holds15_long (la lb : List UInt8) (hma : la.length ≤ 9223372036854775807) (hmb : lb.length ≤ 9223372036854775807) (h : 1500 < la.length ∨ 1500 < lb.length) (w : World) (hG : Glob w) : Calls Tryz.prog 3 #[.agg #[S la, S lb]] w (Yes w) := by
  have hB0 : Bl w (w.alloc (.cells #[S la, S lb] 22)) := (Bl.refl w).alloc _
  have hG0 := hG.bl hB0
  by_cases h1 : 1500 < la.length
  · clear h
    have d0 : decide (1500 < (la.length : Int)) = true := by simp; omega
    go_enter Tryz.func3, Tryz.ntmps3
    go_wp2_with (first | (go_at_call 5; (with_reducible refine (works15_any _ hG0).mono ?_); rintro e w3 ⟨rfl, hb3⟩))
    go_ret
    exact ⟨rfl, hB0.call hb3⟩
  · have h2 : 1500 < lb.length := by omega
    clear h
    have d0 : decide (1500 < (la.length : Int)) = false := by simp; omega
    have d1 : decide (1500 < (lb.length : Int)) = true := by simp; omega
    go_enter Tryz.func3, Tryz.ntmps3
    go_wp2_with (first | (go_at_call 5; (with_reducible refine (works15_any _ hG0).mono ?_); rintro e w3 ⟨rfl, hb3⟩))
    go_ret
    exact ⟨rfl, hB0.call hb3⟩

theorem holds15_all (la lb : List UInt8) (hma : la.length ≤ 9223372036854775807) (hmb : lb.length ≤ 9223372036854775807) (w : World) (hG : Glob w) : Calls Tryz.prog 3 #[.agg #[S la, S lb]] w (Yes w) := by
  by_cases h : 1500 < la.length ∨ 1500 < lb.length
  · exact holds15_long la lb hma hmb h w hG
  · cases ha : toksO la with
    | none => exact holds15_bad la lb (by omega) (by omega) (.inl ha) w hG
    | some ta =>
      cases hb : toksO lb with
      | none => exact holds15_bad la lb (by omega) (by omega) (.inr hb) w hG
      | some tb => exact holds15_any la lb (by omega) (by omega) ta tb ha hb w hG

end Go.Proofs.YtdhaddldmooniaaGreatDoor
