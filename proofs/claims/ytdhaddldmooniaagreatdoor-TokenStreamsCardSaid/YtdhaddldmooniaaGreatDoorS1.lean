/- A stream of tokens: none, now, Peek, At, Next, Back. -/
import Derived.Test.YtdhaddldmooniaaGreatDoorLT
import Derived.BigRegion
import Derived.RegionTactic
namespace Go.Proofs.YtdhaddldmooniaaGreatDoor
open Go.RowKit
set_option maxRecDepth 100000

/-- Block bs is a stream at place k among the tokens ts, which lie in block g. -/
structure Strm (W : World) (bs g cap : Nat) (ts : List Tok) (k : Nat) : Prop where
  own : W.heap[bs]? = some (.cells #[.slice (some ⟨g, 0, none⟩) ts.length cap, .int .i64 (k : Int)] 63 (0, 0))
  row : Row W g ts
  lt : k < ts.length
  few : ts.length ≤ 100000
  ne : g ≠ bs
theorem cells2 {W : World} {b : Nat} {x0 x1 : Value} {t : TypeId} (h : W.heap[b]? = some (.cells #[x0, x1] t (0, 0))) : W.cell? ⟨b, 0, none⟩ = some x0 ∧ W.cell? ⟨b, 1, none⟩ = some x1 ∧ W.frozen? ⟨b, 0, none⟩ = false ∧ W.frozen? ⟨b, 1, none⟩ = false ∧ b < W.heap.size :=
  ⟨by rw [Lib.cell_of_heap h]; rfl, by rw [Lib.cell_of_heap h]; rfl, Lib.frozen_of_heap h 0, Lib.frozen_of_heap h 1, (Array.getElem?_eq_some_iff.1 h).1⟩
theorem grown_trans {A B C : World} {r : Option Nat} (h : A.grownBy B r) (k : B.grownBy C r) : A.grownBy C r :=
  ⟨k.1.trans h.1, k.2.trans h.2, k.3.trans h.3, Nat.le_trans h.4 k.4, fun i hi hr => (k.5 i (Nat.lt_of_lt_of_le hi h.4) hr).trans (h.5 i hi hr)⟩
theorem grown_bl {A B : World} (h : Bl A B) (r : Option Nat) : A.grownBy B r := ⟨h.1, h.2, h.3, h.size, fun i hi _ => h.block i hi⟩
theorem grown_set {A : World} (b o : Nat) (v : Value) : A.grownBy (A.setCell ⟨b, o, none⟩ v) (some b) :=
  ⟨rfl, rfl, rfl, by simp [World.setCell], fun k _ hk => Below.heap_setCell _ _ _ _ (fun e => hk (by rw [e]))⟩
theorem grown_newset {A B : World} {r : Option Nat} (h : A.grownBy B r) {b : Nat} (o : Nat) (hb : A.heap.size ≤ b) (v : Value) : A.grownBy (B.setCell ⟨b, o, none⟩ v) r :=
  ⟨h.1, h.2, h.3, by simp [World.setCell]; exact h.4, fun i hi hr => (Below.heap_setCell _ _ _ _ (by simp; omega)).trans (h.5 i hi hr)⟩
theorem grown_alloc {A B : World} {r : Option Nat} (h : A.grownBy B r) (o : Obj) : A.grownBy (B.alloc o) r :=
  ⟨h.1, h.2, h.3, by have := h.4; simp; omega, fun i hi hr => (heap_old _ _ (Nat.lt_of_lt_of_le hi h.4)).trans (h.5 i hi hr)⟩
theorem grown_drew {A B : World} {r : Option Nat} (h : A.grownBy B r) : A.grownBy B.drew r := ⟨h.1, h.2, h.3, h.4, h.5⟩
theorem grown_set6 {A B : World} {r : Option Nat} (h : A.grownBy B r) {b : Nat} (hb : A.heap.size ≤ b) (y0 y1 y2 y3 y4 y5 : Value) :
    A.grownBy ((((((B.setCell ⟨b, 0, none⟩ y0).setCell ⟨b, 1, none⟩ y1).setCell ⟨b, 2, none⟩ y2).setCell ⟨b, 3, none⟩ y3).setCell ⟨b, 4, none⟩ y4).setCell ⟨b, 5, none⟩ y5) r :=
  grown_newset (grown_newset (grown_newset (grown_newset (grown_newset (grown_newset h 0 hb _) 1 hb _) 2 hb _) 3 hb _) 4 hb _) 5 hb _
theorem heap_set6_other (W : World) {b i : Nat} (hi : i ≠ b) (y0 y1 y2 y3 y4 y5 : Value) :
    ((((((W.setCell ⟨b, 0, none⟩ y0).setCell ⟨b, 1, none⟩ y1).setCell ⟨b, 2, none⟩ y2).setCell ⟨b, 3, none⟩ y3).setCell ⟨b, 4, none⟩ y4).setCell ⟨b, 5, none⟩ y5).heap[i]? = W.heap[i]? := by
  rw [heap_set_other _ ⟨b, 5, none⟩ _ _ hi, heap_set_other _ ⟨b, 4, none⟩ _ _ hi, heap_set_other _ ⟨b, 3, none⟩ _ _ hi, heap_set_other _ ⟨b, 2, none⟩ _ _ hi, heap_set_other _ ⟨b, 1, none⟩ _ _ hi, heap_set_other _ ⟨b, 0, none⟩ _ _ hi]
theorem Strm.keep {W W' : World} {bs g cap k : Nat} {ts : List Tok} (h : Strm W bs g cap ts k) (h1 : W'.heap[bs]? = W.heap[bs]?) (h2 : W'.heap[g]? = W.heap[g]?) : Strm W' bs g cap ts k :=
  ⟨h1.trans h.own, h.row.block h2, h.lt, h.few, h.ne⟩
theorem Strm.bl {W W' : World} {bs g cap k : Nat} {ts : List Tok} (h : Strm W bs g cap ts k) (hb : Bl W W') : Strm W' bs g cap ts k :=
  ⟨(hb.block _ (Array.getElem?_eq_some_iff.1 h.own).1).trans h.own, h.row.bl hb, h.lt, h.few, h.ne⟩
/-- Its place is turned. -/
theorem Strm.turn {W : World} {bs g cap k : Nat} {ts : List Tok} (h : Strm W bs g cap ts k) (m : Nat) (hm : m < ts.length) : Strm (W.setCell ⟨bs, 1, none⟩ (.int .i64 (m : Int))) bs g cap ts m :=
  ⟨by simp [World.setCell, Array.getElem?_modify, h.own], h.row.set_other (p := ⟨bs, 1, none⟩) h.ne _, hm, h.few, h.ne⟩

theorem Row.at {W : World} {g : Nat} {l : List Tok} (h : Row W g l) {j : Nat} {x : Tok} (hx : l[j]? = some x) : At6 W g j x := by
  obtain ⟨hj, e⟩ := List.getElem?_eq_some_iff.1 hx
  rw [← e]; exact h j hj
theorem tnone_no {W : World} {bs g cap k : Nat} {ts : List Tok} (h : Strm W bs g cap ts k) : Calls Tryz.prog 26 #[.pointer (some ⟨bs, 0, none⟩)] W fun e w' => e = .returned (.bool false) ∧ W = w' := by
  obtain ⟨c0, c1, f0, f1, hlt⟩ := cells2 h.own
  have hn := h.lt
  have hf := h.few
  have hb : ((ts.length : Int) == 0) = false := beq_eq_false_iff_ne.2 (by omega)
  clear h
  go_enter Tryz.func26, Tryz.ntmps26
  go_wp2
  go_ret
  exact ⟨rfl, rfl⟩
theorem tnow_any {W : World} {bs g cap k : Nat} {ts : List Tok} (h : Strm W bs g cap ts k) : Calls Tryz.prog 28 #[.pointer (some ⟨bs, 0, none⟩)] W fun e w' => e = .returned (.int .i64 (k : Int)) ∧ W = w' := by
  obtain ⟨c0, c1, f0, f1, hlt⟩ := cells2 h.own
  clear h
  go_enter Tryz.func28, Tryz.ntmps28
  go_wp2
  go_ret
  exact ⟨rfl, rfl⟩
abbrev TVt (x : Tok) : Value := TV x.k x.pos x.t x.v.1 x.v.2.1 x.v.2.2

set_option maxHeartbeats 2000000 in
theorem tPeek_any {W : World} {bs g cap k : Nat} {ts : List Tok} (h : Strm W bs g cap ts k) {x : Tok} (hx : ts[k]? = some x) : Calls Tryz.prog 21 #[.pointer (some ⟨bs, 0, none⟩)] W fun e w' => e = .returned (TVt x) ∧ Bl W w' := by
  have HN := Lib.hid (h.bl ((Bl.refl W).alloc (.cells #[.int .i64 0, .int .i64 0, .string ⟨#[]⟩, .int .i64 0, .int .i64 0, .string ⟨#[]⟩] 34)))
  obtain ⟨c0, c1, f0, f1, hlt⟩ := cells2 h.own
  have h6 := h.row.at hx
  have hkl := h.lt
  have hfew := h.few
  have hgl : g < W.heap.size := World.block_lt_of_cell? _ _ h6.1
  obtain ⟨xk, xp, xt, xa, xb, xc⟩ := x
  obtain ⟨a0, a1, a2, a3, a4, a5⟩ := h6
  simp only at a0 a1 a2 a3 a4 a5
  clear h hx
  go_enter Tryz.func21, Tryz.ntmps21
  go_wp2_with fail
  (with_reducible refine (tnone_no HN.out).mono ?_)
  rintro e w' ⟨rfl, rfl⟩
  go_wp2_with fail
  go_region
  go_wp2_with fail
  exact bodyPost_ret (v := TV xk xp xt xa xb xc) (by simp [results, Tryz.results21, go_sem]) rfl ⟨rfl, ((Bl.refl W).alloc _).drew⟩

theorem tAt_any {W : World} {bs g cap k : Nat} {ts : List Tok} (h : Strm W bs g cap ts k) : Calls Tryz.prog 22 #[.pointer (some ⟨bs, 0, none⟩)] W fun e w' => e = .returned (.int .i64 (k : Int)) ∧ W = w' := by
  obtain ⟨c0, c1, f0, f1, hlt⟩ := cells2 h.own
  have H := Lib.hid h
  clear h
  go_enter Tryz.func22, Tryz.ntmps22
  go_wp2_with (first
    | (go_at_call 26; (with_reducible refine (tnone_no H.out).mono ?_); rintro e w' ⟨rfl, rfl⟩)
    | (go_at_call 28; (with_reducible refine (tnow_any H.out).mono ?_); rintro e w' ⟨rfl, rfl⟩))
  go_ret
  exact ⟨rfl, rfl⟩

def BackPost (W : World) (bs g cap : Nat) (ts : List Tok) (k : Nat) (m : Int) (e : Ending) (w' : World) : Prop :=
  W.grownBy w' (some bs) ∧ ((0 ≤ m ∧ m < ts.length ∧ e = .returned (.bool true) ∧ Strm w' bs g cap ts m.toNat) ∨ (¬ (0 ≤ m ∧ m < ts.length) ∧ e = .returned (.bool false) ∧ Strm w' bs g cap ts k))
set_option maxHeartbeats 2000000 in
theorem tBack_any {W : World} {bs g cap k : Nat} {ts : List Tok} (h : Strm W bs g cap ts k) (m : Int) : Calls Tryz.prog 20 #[.pointer (some ⟨bs, 0, none⟩), .int .i64 m] W (BackPost W bs g cap ts k m) := by
  obtain ⟨c0, c1, f0, f1, hlt⟩ := cells2 h.own
  have hfew := h.few
  have H := Lib.hid h
  clear h
  by_cases h0 : m < 0
  · have HN : Hid (¬ (0 ≤ m ∧ m < ts.length)) := by show ¬ _; omega
    go_enter Tryz.func20, Tryz.ntmps20
    go_wp2_with (first
      | (go_at_call 26; (with_reducible refine (tnone_no H.out).mono ?_); rintro e w' ⟨rfl, rfl⟩))
    go_ret
    exact ⟨grown_bl (Bl.refl W) _, .inr ⟨HN.out, rfl, H.out⟩⟩
  by_cases h1 : m < ts.length
  · have HN : Hid (0 ≤ m ∧ m < ts.length) := ⟨by omega, h1⟩
    have hge : ¬ ((ts.length : Int) ≤ m) := by omega
    have hm0 : 0 ≤ m := by omega
    go_enter Tryz.func20, Tryz.ntmps20
    go_wp2_with (first
      | (go_at_call 26; (with_reducible refine (tnone_no H.out).mono ?_); rintro e w' ⟨rfl, rfl⟩))
    go_ret
    refine ⟨grown_set _ _ _, .inl ⟨HN.out.1, HN.out.2, rfl, ?_⟩⟩
    have := H.out.turn m.toNat (by omega)
    rw [show ((m.toNat : Nat) : Int) = m by omega] at this
    exact this
  · have HN : Hid (¬ (0 ≤ m ∧ m < ts.length)) := by show ¬ _; omega
    have hge : (ts.length : Int) ≤ m := by omega
    go_enter Tryz.func20, Tryz.ntmps20
    go_wp2_with (first
      | (go_at_call 26; (with_reducible refine (tnone_no H.out).mono ?_); rintro e w' ⟨rfl, rfl⟩))
    go_ret
    exact ⟨grown_bl (Bl.refl W) _, .inr ⟨HN.out, rfl, H.out⟩⟩

/-- Where a stream is behind its next. -/
def nextK (n k : Nat) : Nat := if k + 1 < n then k + 1 else n - 1
theorem nextK_lt {n k : Nat} (h : k < n) : nextK n k < n := by unfold nextK; split <;> omega

set_option maxHeartbeats 4000000 in
theorem tNext_any {W : World} {bs g cap k : Nat} {ts : List Tok} (h : Strm W bs g cap ts k) {x : Tok} (hx : ts[k]? = some x) : Calls Tryz.prog 11 #[.pointer (some ⟨bs, 0, none⟩)] W fun e w' => e = .returned (TVt x) ∧ W.grownBy w' (some bs) ∧ Strm w' bs g cap ts (nextK ts.length k) := by
  have hb0 : Bl W (W.alloc (.cells #[.int .i64 0, .int .i64 0, .string ⟨#[]⟩, .int .i64 0, .int .i64 0, .string ⟨#[]⟩] 34)) := (Bl.refl W).alloc _
  have HN := Lib.hid (h.bl hb0)
  have hA0 := heap_new W (.cells #[.int .i64 0, .int .i64 0, .string ⟨#[]⟩, .int .i64 0, .int .i64 0, .string ⟨#[]⟩] 34)
  have hkl := h.lt
  have hfew := h.few
  have hbl : bs < W.heap.size := (Array.getElem?_eq_some_iff.1 h.own).1
  have HK : Hid (min ((k : Int) + 1) ((ts.length : Int) - 1) = (nextK ts.length k : Int)) := by
    show _ = _
    unfold nextK; split <;> omega
  have HKL := Lib.hid (nextK_lt hkl)
  have hgl : g < W.heap.size := World.block_lt_of_cell? _ _ (h.row k h.lt).1
  have HX := Lib.hid hx
  clear h hx
  obtain ⟨xk, xp, xt, xa, xb, xc⟩ := x
  go_enter Tryz.func11, Tryz.ntmps11
  go_wp2_with fail
  (with_reducible refine (tPeek_any HN.out HX.out).mono ?_)
  rintro e w1 ⟨rfl, hb1⟩
  have hA1 := (hb1.block _ (by simp)).trans hA0
  have hz1 : W.heap.size < w1.heap.size := (Array.getElem?_eq_some_iff.1 hA1).1
  have HS1 := Lib.hid (HN.out.bl hb1)
  have HS2 := Lib.hid ((HN.out.bl hb1).bl ((Bl.refl w1).alloc (.cells #[.int .i64 xk, .int .i64 (xp : Int), S xt, .int .i64 xa, .int .i64 xb, S xc] 34)))
  have hb2 : Bl W w1 := hb0.call hb1
  clear hA0 hb0 hb1
  go_wp2_with fail
  (with_reducible refine (tnone_no HS2.out).mono ?_)
  rintro e w' ⟨rfl, rfl⟩
  obtain ⟨c0, c1, f0, f1, hlt⟩ := cells2 HS1.out.own
  obtain ⟨⟨d0, d1, d2, d3, d4, d5⟩, ⟨k0, k1, k2, k3, k4, k5⟩⟩ := cells6 hA1
  have x1 : IntKind.i64.wrap ((k : Int) + 1) = (k : Int) + 1 := IntWalk.i64_in _ (by omega)
  have x2 : IntKind.i64.wrap ((ts.length : Int) - 1) = (ts.length : Int) - 1 := IntWalk.i64_in _ (by omega)
  have hne : bs ≠ W.heap.size := by omega
  have hne' : W.heap.size ≠ bs := by omega
  go_wp2_with fail
  go_region
  clear x1 x2
  go_wp2_with fail
  rw [HK.out]
  clear c0 c1 f0 f1 d0 d1 d2 d3 d4 d5 k0 k1 k2 k3 k4 k5
  have s2 := HS1.out.turn _ HKL.out
  have hA2 : (w1.setCell ⟨bs, 1, none⟩ (.int .i64 (nextK ts.length k : Int))).heap[W.heap.size]? = _ := (heap_set_other _ ⟨bs, 1, none⟩ _ _ (by simp; omega)).trans hA1
  have g2 : W.grownBy (w1.setCell ⟨bs, 1, none⟩ (.int .i64 (nextK ts.length k : Int))) (some bs) := grown_trans (grown_bl hb2 _) (grown_set _ _ _)
  generalize w1.setCell ⟨bs, 1, none⟩ (.int .i64 (nextK ts.length k : Int)) = W2 at *
  have hS6 := heap_set6 W2 W.heap.size _ _ _ _ _ _ (.int .i64 xk) (.int .i64 (xp : Int)) (.string ⟨xt.toArray⟩) (.int .i64 xa) (.int .i64 xb) (.string ⟨xc.toArray⟩) 34 hA2
  have g6 := grown_set6 g2 (Nat.le_refl W.heap.size) (.int .i64 xk) (.int .i64 (xp : Int)) (.string ⟨xt.toArray⟩) (.int .i64 xa) (.int .i64 xb) (.string ⟨xc.toArray⟩)
  have s6 := s2.keep (heap_set6_other W2 hne (.int .i64 xk) (.int .i64 (xp : Int)) (.string ⟨xt.toArray⟩) (.int .i64 xa) (.int .i64 xb) (.string ⟨xc.toArray⟩)) (heap_set6_other W2 (b := W.heap.size) (i := g) (by omega) (.int .i64 xk) (.int .i64 (xp : Int)) (.string ⟨xt.toArray⟩) (.int .i64 xa) (.int .i64 xb) (.string ⟨xc.toArray⟩))
  generalize (((((W2.setCell ⟨W.heap.size, 0, none⟩ (.int .i64 xk)).setCell ⟨W.heap.size, 1, none⟩ (.int .i64 (xp : Int))).setCell ⟨W.heap.size, 2, none⟩ (.string ⟨xt.toArray⟩)).setCell ⟨W.heap.size, 3, none⟩ (.int .i64 xa)).setCell ⟨W.heap.size, 4, none⟩ (.int .i64 xb)).setCell ⟨W.heap.size, 5, none⟩ (.string ⟨xc.toArray⟩) = W6 at *
  have hl6 : W.heap.size < W6.heap.size := (Array.getElem?_eq_some_iff.1 hS6).1
  have hS7 := (heap_old W6 (.cells #[.int .i64 xk, .int .i64 (xp : Int), .string ⟨xt.toArray⟩, .int .i64 xa, .int .i64 xb, .string ⟨xc.toArray⟩] 34) hl6).trans hS6
  have g7 := grown_drew (grown_alloc g6 (.cells #[.int .i64 xk, .int .i64 (xp : Int), .string ⟨xt.toArray⟩, .int .i64 xa, .int .i64 xb, .string ⟨xc.toArray⟩] 34))
  have s7 := s6.bl ((Bl.refl W6).alloc (.cells #[.int .i64 xk, .int .i64 (xp : Int), .string ⟨xt.toArray⟩, .int .i64 xa, .int .i64 xb, .string ⟨xc.toArray⟩] 34)).drew
  have hS8 : (W6.alloc (.cells #[.int .i64 xk, .int .i64 (xp : Int), .string ⟨xt.toArray⟩, .int .i64 xa, .int .i64 xb, .string ⟨xc.toArray⟩] 34)).drew.heap[W.heap.size]? = _ := hS7
  generalize (W6.alloc (.cells #[.int .i64 xk, .int .i64 (xp : Int), .string ⟨xt.toArray⟩, .int .i64 xa, .int .i64 xb, .string ⟨xc.toArray⟩] 34)).drew = W8 at *
  obtain ⟨⟨q0, q1, q2, q3, q4, q5⟩, -⟩ := cells6 hS8
  exact bodyPost_ret (v := TV xk xp xt xa xb xc) (by simp [results, Tryz.results11, go_sem, q0, q1, q2, q3, q4, q5]) rfl ⟨rfl, g7, s7⟩

end Go.Proofs.YtdhaddldmooniaaGreatDoor
