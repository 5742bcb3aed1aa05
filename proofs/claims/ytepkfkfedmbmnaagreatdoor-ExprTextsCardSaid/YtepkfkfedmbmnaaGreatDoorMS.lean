/- A stream of tokens: none, now, Peek, At, Next, Back. A stream's Name; of none. The reference's streams: Peek, Next, Is, Keyword, Name. Taking texts: the plain law; slices of texts. The reference's streams: Name. The reference's Take. -/
import Derived.Test.YtepkfkfedmbmnaaGreatDoorLT
import Derived.Test.YtepkfkfedmbmnaaGreatDoorMU
import Derived.Test.YtepkfkfedmbmnaaGreatDoorMB
import Derived.BigRegion
import Derived.RegionTactic
namespace Go.Proofs.YtepkfkfedmbmnaaGreatDoor
open Go.RowKit
set_option maxRecDepth 100000

/-- Block bs is a stream at place k among the tokens ts, which lie in block g. -/
structure Strm (W : World) (bs g cap : Nat) (ts : List Tok) (k : Nat) : Prop where
  own : W.heap[bs]? = some (.cells #[.slice (some ⟨g, 0, none⟩) ts.length cap, .int .i64 (k : Int)] 69 (0, 0))
  row : Row W g ts
  lt : k < ts.length
  few : ts.length ≤ 100000
  ne : g ≠ bs
theorem cells2 {W : World} {b : Nat} {x0 x1 : Value} {t : TypeId} (h : W.heap[b]? = some (.cells #[x0, x1] t (0, 0))) : W.cell? ⟨b, 0, none⟩ = some x0 ∧ W.cell? ⟨b, 1, none⟩ = some x1 ∧ W.frozen? ⟨b, 0, none⟩ = false ∧ W.frozen? ⟨b, 1, none⟩ = false ∧ b < W.heap.size :=
  ⟨by rw [Lib.cell_of_heap h]; rfl, by rw [Lib.cell_of_heap h]; rfl, Lib.frozen_of_heap h 0, Lib.frozen_of_heap h 1, (Array.getElem?_eq_some_iff.1 h).1⟩
theorem grown_trans {A B C : World} {r : Option Nat} (h : A.grownBy B r) (k : B.grownBy C r) : A.grownBy C r :=
  ⟨k.1.trans h.1, k.2.trans h.2, k.3.trans h.3, Nat.le_trans h.4 k.4, fun i hi hr => (k.5 i (Nat.lt_of_lt_of_le hi h.4) hr).trans (h.5 i hi hr)⟩
theorem grown_bl {A B : World} (h : Bl A B) (r : Option Nat) : A.grownBy B r := ⟨h.1, h.2, h.3, h.size, fun i hi _ => h.block i hi⟩
theorem grown_set {A : World} (b o : Nat) (v : Value) : A.grownBy (A.setCell ⟨b, o, none⟩ v) (some b) :=
  ⟨rfl, rfl, rfl, by simp [World.setCell], fun k _ hk => Below.heap_setCell _ _ _ _ (fun e => hk (by rw [e]))⟩
theorem grown_newset {A B : World} {r : Option Nat} (h : A.grownBy B r) {b : Nat} (o : Nat) (hb : A.heap.size ≤ b) (v : Value) : A.grownBy (B.setCell ⟨b, o, none⟩ v) r :=
  ⟨h.1, h.2, h.3, by simp [World.setCell]; exact h.4, fun i hi hr => (Below.heap_setCell _ _ _ _ (by simp; omega)).trans (h.5 i hi hr)⟩
theorem grown_alloc {A B : World} {r : Option Nat} (h : A.grownBy B r) (o : Obj) : A.grownBy (B.alloc o) r :=
  ⟨h.1, h.2, h.3, by have := h.4; simp; omega, fun i hi hr => (heap_old _ _ (Nat.lt_of_lt_of_le hi h.4)).trans (h.5 i hi hr)⟩
theorem grown_drew {A B : World} {r : Option Nat} (h : A.grownBy B r) : A.grownBy B.drew r := ⟨h.1, h.2, h.3, h.4, h.5⟩
theorem grown_set6 {A B : World} {r : Option Nat} (h : A.grownBy B r) {b : Nat} (hb : A.heap.size ≤ b) (y0 y1 y2 y3 y4 y5 : Value) :
    A.grownBy ((((((B.setCell ⟨b, 0, none⟩ y0).setCell ⟨b, 1, none⟩ y1).setCell ⟨b, 2, none⟩ y2).setCell ⟨b, 3, none⟩ y3).setCell ⟨b, 4, none⟩ y4).setCell ⟨b, 5, none⟩ y5) r :=
  grown_newset (grown_newset (grown_newset (grown_newset (grown_newset (grown_newset h 0 hb _) 1 hb _) 2 hb _) 3 hb _) 4 hb _) 5 hb _
theorem heap_set6_other (W : World) {b i : Nat} (hi : i ≠ b) (y0 y1 y2 y3 y4 y5 : Value) :
    ((((((W.setCell ⟨b, 0, none⟩ y0).setCell ⟨b, 1, none⟩ y1).setCell ⟨b, 2, none⟩ y2).setCell ⟨b, 3, none⟩ y3).setCell ⟨b, 4, none⟩ y4).setCell ⟨b, 5, none⟩ y5).heap[i]? = W.heap[i]? := by
  rw [heap_set_other _ ⟨b, 5, none⟩ _ _ hi, heap_set_other _ ⟨b, 4, none⟩ _ _ hi, heap_set_other _ ⟨b, 3, none⟩ _ _ hi, heap_set_other _ ⟨b, 2, none⟩ _ _ hi, heap_set_other _ ⟨b, 1, none⟩ _ _ hi, heap_set_other _ ⟨b, 0, none⟩ _ _ hi]
theorem Strm.keep {W W' : World} {bs g cap k : Nat} {ts : List Tok} (h : Strm W bs g cap ts k) (h1 : W'.heap[bs]? = W.heap[bs]?) (h2 : W'.heap[g]? = W.heap[g]?) : Strm W' bs g cap ts k :=
  ⟨h1.trans h.own, h.row.block h2, h.lt, h.few, h.ne⟩
theorem Strm.bl {W W' : World} {bs g cap k : Nat} {ts : List Tok} (h : Strm W bs g cap ts k) (hb : Bl W W') : Strm W' bs g cap ts k :=
  ⟨(hb.block _ (Array.getElem?_eq_some_iff.1 h.own).1).trans h.own, h.row.bl hb, h.lt, h.few, h.ne⟩
/-- Its place is turned. -/
theorem Strm.turn {W : World} {bs g cap k : Nat} {ts : List Tok} (h : Strm W bs g cap ts k) (m : Nat) (hm : m < ts.length) : Strm (W.setCell ⟨bs, 1, none⟩ (.int .i64 (m : Int))) bs g cap ts m :=
  ⟨by simp [World.setCell, Array.getElem?_modify, h.own], h.row.set_other (p := ⟨bs, 1, none⟩) h.ne _, hm, h.few, h.ne⟩

theorem Row.at {W : World} {g : Nat} {l : List Tok} (h : Row W g l) {j : Nat} {x : Tok} (hx : l[j]? = some x) : At6 W g j x := by
  obtain ⟨hj, e⟩ := List.getElem?_eq_some_iff.1 hx
  rw [← e]; exact h j hj
theorem tnone_no {W : World} {bs g cap k : Nat} {ts : List Tok} (h : Strm W bs g cap ts k) : Calls Tryz.prog 39 #[.pointer (some ⟨bs, 0, none⟩)] W fun e w' => e = .returned (.bool false) ∧ W = w' := by
  obtain ⟨c0, c1, f0, f1, hlt⟩ := cells2 h.own
  have hn := h.lt
  have hf := h.few
  have hb : ((ts.length : Int) == 0) = false := beq_eq_false_iff_ne.2 (by omega)
  clear h
  go_enter Tryz.func39, Tryz.ntmps39
  go_wp2
  go_ret
  exact ⟨rfl, rfl⟩
theorem tnow_any {W : World} {bs g cap k : Nat} {ts : List Tok} (h : Strm W bs g cap ts k) : Calls Tryz.prog 40 #[.pointer (some ⟨bs, 0, none⟩)] W fun e w' => e = .returned (.int .i64 (k : Int)) ∧ W = w' := by
  obtain ⟨c0, c1, f0, f1, hlt⟩ := cells2 h.own
  clear h
  go_enter Tryz.func40, Tryz.ntmps40
  go_wp2
  go_ret
  exact ⟨rfl, rfl⟩
abbrev TVt (x : Tok) : Value := TV x.k x.pos x.t x.v.1 x.v.2.1 x.v.2.2

set_option maxHeartbeats 2000000 in
theorem tPeek_any {W : World} {bs g cap k : Nat} {ts : List Tok} (h : Strm W bs g cap ts k) {x : Tok} (hx : ts[k]? = some x) : Calls Tryz.prog 29 #[.pointer (some ⟨bs, 0, none⟩)] W fun e w' => e = .returned (TVt x) ∧ Bl W w' := by
  have HN := Lib.hid (h.bl ((Bl.refl W).alloc (.cells #[.int .i64 0, .int .i64 0, .string ⟨#[]⟩, .int .i64 0, .int .i64 0, .string ⟨#[]⟩] 53)))
  obtain ⟨c0, c1, f0, f1, hlt⟩ := cells2 h.own
  have h6 := h.row.at hx
  have hkl := h.lt
  have hfew := h.few
  have hgl : g < W.heap.size := World.block_lt_of_cell? _ _ h6.1
  obtain ⟨xk, xp, xt, xa, xb, xc⟩ := x
  obtain ⟨a0, a1, a2, a3, a4, a5⟩ := h6
  simp only at a0 a1 a2 a3 a4 a5
  clear h hx
  go_enter Tryz.func29, Tryz.ntmps29
  go_wp2_with fail
  (with_reducible refine (tnone_no HN.out).mono ?_)
  rintro e w' ⟨rfl, rfl⟩
  go_wp2_with fail
  go_region
  go_wp2_with fail
  exact bodyPost_ret (v := TV xk xp xt xa xb xc) (by simp [results, Tryz.results29, go_sem]) rfl ⟨rfl, ((Bl.refl W).alloc _).drew⟩

theorem tAt_any {W : World} {bs g cap k : Nat} {ts : List Tok} (h : Strm W bs g cap ts k) : Calls Tryz.prog 16 #[.pointer (some ⟨bs, 0, none⟩)] W fun e w' => e = .returned (.int .i64 (k : Int)) ∧ W = w' := by
  obtain ⟨c0, c1, f0, f1, hlt⟩ := cells2 h.own
  have H := Lib.hid h
  clear h
  go_enter Tryz.func16, Tryz.ntmps16
  go_wp2_with (first
    | (go_at_call 39; (with_reducible refine (tnone_no H.out).mono ?_); rintro e w' ⟨rfl, rfl⟩)
    | (go_at_call 40; (with_reducible refine (tnow_any H.out).mono ?_); rintro e w' ⟨rfl, rfl⟩))
  go_ret
  exact ⟨rfl, rfl⟩

def BackPost (W : World) (bs g cap : Nat) (ts : List Tok) (k : Nat) (m : Int) (e : Ending) (w' : World) : Prop :=
  W.grownBy w' (some bs) ∧ ((0 ≤ m ∧ m < ts.length ∧ e = .returned (.bool true) ∧ Strm w' bs g cap ts m.toNat) ∨ (¬ (0 ≤ m ∧ m < ts.length) ∧ e = .returned (.bool false) ∧ Strm w' bs g cap ts k))
set_option maxHeartbeats 2000000 in
theorem tBack_any {W : World} {bs g cap k : Nat} {ts : List Tok} (h : Strm W bs g cap ts k) (m : Int) : Calls Tryz.prog 36 #[.pointer (some ⟨bs, 0, none⟩), .int .i64 m] W (BackPost W bs g cap ts k m) := by
  obtain ⟨c0, c1, f0, f1, hlt⟩ := cells2 h.own
  have hfew := h.few
  have H := Lib.hid h
  clear h
  by_cases h0 : m < 0
  · have HN : Hid (¬ (0 ≤ m ∧ m < ts.length)) := by show ¬ _; omega
    go_enter Tryz.func36, Tryz.ntmps36
    go_wp2_with (first
      | (go_at_call 39; (with_reducible refine (tnone_no H.out).mono ?_); rintro e w' ⟨rfl, rfl⟩))
    go_ret
    exact ⟨grown_bl (Bl.refl W) _, .inr ⟨HN.out, rfl, H.out⟩⟩
  by_cases h1 : m < ts.length
  · have HN : Hid (0 ≤ m ∧ m < ts.length) := ⟨by omega, h1⟩
    have hge : ¬ ((ts.length : Int) ≤ m) := by omega
    have hm0 : 0 ≤ m := by omega
    go_enter Tryz.func36, Tryz.ntmps36
    go_wp2_with (first
      | (go_at_call 39; (with_reducible refine (tnone_no H.out).mono ?_); rintro e w' ⟨rfl, rfl⟩))
    go_ret
    refine ⟨grown_set _ _ _, .inl ⟨HN.out.1, HN.out.2, rfl, ?_⟩⟩
    have := H.out.turn m.toNat (by omega)
    rw [show ((m.toNat : Nat) : Int) = m by omega] at this
    exact this
  · have HN : Hid (¬ (0 ≤ m ∧ m < ts.length)) := by show ¬ _; omega
    have hge : (ts.length : Int) ≤ m := by omega
    go_enter Tryz.func36, Tryz.ntmps36
    go_wp2_with (first
      | (go_at_call 39; (with_reducible refine (tnone_no H.out).mono ?_); rintro e w' ⟨rfl, rfl⟩))
    go_ret
    exact ⟨grown_bl (Bl.refl W) _, .inr ⟨HN.out, rfl, H.out⟩⟩

/-- Where a stream is behind its next. -/
def nextK (n k : Nat) : Nat := if k + 1 < n then k + 1 else n - 1
theorem nextK_lt {n k : Nat} (h : k < n) : nextK n k < n := by unfold nextK; split <;> omega

set_option maxHeartbeats 4000000 in
theorem tNext_any {W : World} {bs g cap k : Nat} {ts : List Tok} (h : Strm W bs g cap ts k) {x : Tok} (hx : ts[k]? = some x) : Calls Tryz.prog 17 #[.pointer (some ⟨bs, 0, none⟩)] W fun e w' => e = .returned (TVt x) ∧ W.grownBy w' (some bs) ∧ Strm w' bs g cap ts (nextK ts.length k) := by
  have hb0 : Bl W (W.alloc (.cells #[.int .i64 0, .int .i64 0, .string ⟨#[]⟩, .int .i64 0, .int .i64 0, .string ⟨#[]⟩] 53)) := (Bl.refl W).alloc _
  have HN := Lib.hid (h.bl hb0)
  have hA0 := heap_new W (.cells #[.int .i64 0, .int .i64 0, .string ⟨#[]⟩, .int .i64 0, .int .i64 0, .string ⟨#[]⟩] 53)
  have hkl := h.lt
  have hfew := h.few
  have hbl : bs < W.heap.size := (Array.getElem?_eq_some_iff.1 h.own).1
  have HK : Hid (min ((k : Int) + 1) ((ts.length : Int) - 1) = (nextK ts.length k : Int)) := by
    show _ = _
    unfold nextK; split <;> omega
  have HKL := Lib.hid (nextK_lt hkl)
  have hgl : g < W.heap.size := World.block_lt_of_cell? _ _ (h.row k h.lt).1
  have HX := Lib.hid hx
  clear h hx
  obtain ⟨xk, xp, xt, xa, xb, xc⟩ := x
  go_enter Tryz.func17, Tryz.ntmps17
  go_wp2_with fail
  (with_reducible refine (tPeek_any HN.out HX.out).mono ?_)
  rintro e w1 ⟨rfl, hb1⟩
  have hA1 := (hb1.block _ (by simp)).trans hA0
  have hz1 : W.heap.size < w1.heap.size := (Array.getElem?_eq_some_iff.1 hA1).1
  have HS1 := Lib.hid (HN.out.bl hb1)
  have HS2 := Lib.hid ((HN.out.bl hb1).bl ((Bl.refl w1).alloc (.cells #[.int .i64 xk, .int .i64 (xp : Int), S xt, .int .i64 xa, .int .i64 xb, S xc] 53)))
  have hb2 : Bl W w1 := hb0.call hb1
  clear hA0 hb0 hb1
  go_wp2_with fail
  (with_reducible refine (tnone_no HS2.out).mono ?_)
  rintro e w' ⟨rfl, rfl⟩
  obtain ⟨c0, c1, f0, f1, hlt⟩ := cells2 HS1.out.own
  obtain ⟨⟨d0, d1, d2, d3, d4, d5⟩, ⟨k0, k1, k2, k3, k4, k5⟩⟩ := cells6 hA1
  have x1 : IntKind.i64.wrap ((k : Int) + 1) = (k : Int) + 1 := IntWalk.i64_in _ (by omega)
  have x2 : IntKind.i64.wrap ((ts.length : Int) - 1) = (ts.length : Int) - 1 := IntWalk.i64_in _ (by omega)
  have hne : bs ≠ W.heap.size := by omega
  have hne' : W.heap.size ≠ bs := by omega
  go_wp2_with fail
  go_region
  clear x1 x2
  go_wp2_with fail
  rw [HK.out]
  clear c0 c1 f0 f1 d0 d1 d2 d3 d4 d5 k0 k1 k2 k3 k4 k5
  have s2 := HS1.out.turn _ HKL.out
  have hA2 : (w1.setCell ⟨bs, 1, none⟩ (.int .i64 (nextK ts.length k : Int))).heap[W.heap.size]? = _ := (heap_set_other _ ⟨bs, 1, none⟩ _ _ (by simp; omega)).trans hA1
  have g2 : W.grownBy (w1.setCell ⟨bs, 1, none⟩ (.int .i64 (nextK ts.length k : Int))) (some bs) := grown_trans (grown_bl hb2 _) (grown_set _ _ _)
  generalize w1.setCell ⟨bs, 1, none⟩ (.int .i64 (nextK ts.length k : Int)) = W2 at *
  have hS6 := heap_set6 W2 W.heap.size _ _ _ _ _ _ (.int .i64 xk) (.int .i64 (xp : Int)) (.string ⟨xt.toArray⟩) (.int .i64 xa) (.int .i64 xb) (.string ⟨xc.toArray⟩) 53 hA2
  have g6 := grown_set6 g2 (Nat.le_refl W.heap.size) (.int .i64 xk) (.int .i64 (xp : Int)) (.string ⟨xt.toArray⟩) (.int .i64 xa) (.int .i64 xb) (.string ⟨xc.toArray⟩)
  have s6 := s2.keep (heap_set6_other W2 hne (.int .i64 xk) (.int .i64 (xp : Int)) (.string ⟨xt.toArray⟩) (.int .i64 xa) (.int .i64 xb) (.string ⟨xc.toArray⟩)) (heap_set6_other W2 (b := W.heap.size) (i := g) (by omega) (.int .i64 xk) (.int .i64 (xp : Int)) (.string ⟨xt.toArray⟩) (.int .i64 xa) (.int .i64 xb) (.string ⟨xc.toArray⟩))
  generalize (((((W2.setCell ⟨W.heap.size, 0, none⟩ (.int .i64 xk)).setCell ⟨W.heap.size, 1, none⟩ (.int .i64 (xp : Int))).setCell ⟨W.heap.size, 2, none⟩ (.string ⟨xt.toArray⟩)).setCell ⟨W.heap.size, 3, none⟩ (.int .i64 xa)).setCell ⟨W.heap.size, 4, none⟩ (.int .i64 xb)).setCell ⟨W.heap.size, 5, none⟩ (.string ⟨xc.toArray⟩) = W6 at *
  have hl6 : W.heap.size < W6.heap.size := (Array.getElem?_eq_some_iff.1 hS6).1
  have hS7 := (heap_old W6 (.cells #[.int .i64 xk, .int .i64 (xp : Int), .string ⟨xt.toArray⟩, .int .i64 xa, .int .i64 xb, .string ⟨xc.toArray⟩] 53) hl6).trans hS6
  have g7 := grown_drew (grown_alloc g6 (.cells #[.int .i64 xk, .int .i64 (xp : Int), .string ⟨xt.toArray⟩, .int .i64 xa, .int .i64 xb, .string ⟨xc.toArray⟩] 53))
  have s7 := s6.bl ((Bl.refl W6).alloc (.cells #[.int .i64 xk, .int .i64 (xp : Int), .string ⟨xt.toArray⟩, .int .i64 xa, .int .i64 xb, .string ⟨xc.toArray⟩] 53)).drew
  have hS8 : (W6.alloc (.cells #[.int .i64 xk, .int .i64 (xp : Int), .string ⟨xt.toArray⟩, .int .i64 xa, .int .i64 xb, .string ⟨xc.toArray⟩] 53)).drew.heap[W.heap.size]? = _ := hS7
  generalize (W6.alloc (.cells #[.int .i64 xk, .int .i64 (xp : Int), .string ⟨xt.toArray⟩, .int .i64 xa, .int .i64 xb, .string ⟨xc.toArray⟩] 53)).drew = W8 at *
  obtain ⟨⟨q0, q1, q2, q3, q4, q5⟩, -⟩ := cells6 hS8
  exact bodyPost_ret (v := TV xk xp xt xa xb xc) (by simp [results, Tryz.results17, go_sem, q0, q1, q2, q3, q4, q5]) rfl ⟨rfl, g7, s7⟩

end Go.Proofs.YtepkfkfedmbmnaaGreatDoor

namespace Go.Proofs.YtepkfkfedmbmnaaGreatDoor
open Go.RowKit
set_option maxRecDepth 100000

def isName1 (x : Tok) : Bool := (x.k == 1) && !kwB x.t
def NamePost (W : World) (bs g cap : Nat) (ts : List Tok) (k : Nat) (x : Tok) (e : Ending) (w' : World) : Prop :=
  W.grownBy w' (some bs) ∧ ((isName1 x = true ∧ e = .returned (.tuple #[S x.t, .bool true]) ∧ Strm w' bs g cap ts (nextK ts.length k)) ∨ (isName1 x = false ∧ e = .returned (.tuple #[S [], .bool false]) ∧ Strm w' bs g cap ts k))

set_option maxHeartbeats 4000000 in
theorem tName_any {W : World} {bs g cap k : Nat} {ts : List Tok} (h : Strm W bs g cap ts k) {x : Tok} (hx : ts[k]? = some x) : Calls Tryz.prog 110 #[.pointer (some ⟨bs, 0, none⟩)] W (NamePost W bs g cap ts k x) := by
  have H := Lib.hid h
  have HX := Lib.hid hx
  have hbl : bs < W.heap.size := (Array.getElem?_eq_some_iff.1 h.own).1
  clear h hx
  go_enter Tryz.func110, Tryz.ntmps110
  go_wp2_with fail
  (with_reducible refine (tPeek_any H.out HX.out).mono ?_)
  rintro e w1 ⟨rfl, hb1⟩
  obtain ⟨xk, xp, xt, xa, xb, xc⟩ := x
  have hb2 : Bl W (w1.alloc (.cells #[.int .i64 xk, .int .i64 (xp : Int), S xt, .int .i64 xa, .int .i64 xb, S xc] 53)) := hb1.alloc _
  have HS := Lib.hid (H.out.bl hb2)
  have hsz1 := hb1.size
  by_cases hk1 : xk = 1
  · subst hk1
    cases hkw : kwB xt
    · have HN : Hid (isName1 ⟨1, xp, xt, (xa, xb, xc)⟩ = true) := by show _ = _; simp [isName1, hkw]
      have HKW := Lib.hid hkw
      clear hkw
      have hT := heap_new w1 (.cells #[.int .i64 1, .int .i64 (xp : Int), S xt, .int .i64 xa, .int .i64 xb, S xc] 53)
      go_wp2_with (first
        | (go_at_call 126; (with_reducible refine (Keyword_any xt _).mono ?_); rintro e w2 ⟨rfl, hb3⟩; rw [HKW.out]))
      have HS3 := Lib.hid (HS.out.bl hb3)
      have hT3 := (hb3.block _ (by simp)).trans hT
      have hsz3 := hb3.size
      rw [World.size_alloc] at hsz3
      (with_reducible refine (tNext_any HS3.out HX.out).mono ?_)
      rintro e w4 ⟨rfl, hg4, hs4⟩
      have hT4 := (hg4.block _ (by omega) (by simp; omega)).trans hT3
      have t2 : w4.cell? ⟨w1.heap.size, 2, none⟩ = some (S xt) := by rw [Lib.cell_of_heap hT4]; rfl
      have hg5 := grown_trans (grown_bl (hb2.call hb3) (some bs)) hg4
      clear hT hT3 hT4 hb3 hb2 hg4
      go_wp2_with fail
      go_ret2
      exact ⟨hg5, .inl ⟨HN.out, rfl, hs4⟩⟩
    · have HN : Hid (isName1 ⟨1, xp, xt, (xa, xb, xc)⟩ = false) := by show _ = _; simp [isName1, hkw]
      have HKW := Lib.hid hkw
      clear hkw
      go_wp2_with (first
        | (go_at_call 126; (with_reducible refine (Keyword_any xt _).mono ?_); rintro e w2 ⟨rfl, hb3⟩; rw [HKW.out]))
      go_ret2
      exact ⟨grown_bl (hb2.call hb3) _, .inr ⟨HN.out, rfl, HS.out.bl hb3⟩⟩
  · have hkb : (xk != 1) = true := by simpa using hk1
    have hkb' : (xk == 1) = false := by simpa using hk1
    have HN : Hid (isName1 ⟨xk, xp, xt, (xa, xb, xc)⟩ = false) := by show _ = _; simp [isName1, hk1]
    clear hk1
    go_wp2_with fail
    go_ret2
    exact ⟨grown_bl hb2 _, .inr ⟨HN.out, rfl, HS.out⟩⟩

/-! Of no stream: nil, or one without tokens. -/
/-- It is no stream. -/
def NoStr (W : World) (p : Option Addr) : Prop := p = none ∨ ∃ bs, p = some ⟨bs, 0, none⟩ ∧ W.heap[bs]? = some (.cells #[.slice none 0 0, .int .i64 0] 69 (0, 0))
theorem NoStr.bl {W W' : World} {p : Option Addr} (h : NoStr W p) (hb : Bl W W') : NoStr W' p := by
  rcases h with h | ⟨bs, h, h2⟩
  · exact .inl h
  · exact .inr ⟨bs, h, (hb.block _ (Array.getElem?_eq_some_iff.1 h2).1).trans h2⟩
theorem tnone_yes {W : World} {p : Option Addr} (h : NoStr W p) : Calls Tryz.prog 39 #[.pointer p] W fun e w' => e = .returned (.bool true) ∧ W = w' := by
  rcases h with rfl | ⟨bs, rfl, h⟩
  · go_enter Tryz.func39, Tryz.ntmps39
    go_wp2
    go_ret
    exact ⟨rfl, rfl⟩
  · obtain ⟨c0, c1, f0, f1, hlt⟩ := cells2 h
    go_enter Tryz.func39, Tryz.ntmps39
    go_wp2
    go_ret
    exact ⟨rfl, rfl⟩
theorem tPeek_none {W : World} {p : Option Addr} (h : NoStr W p) : Calls Tryz.prog 29 #[.pointer p] W fun e w' => e = .returned (TV 0 0 [] 0 0 []) ∧ Bl W w' := by
  have H := Lib.hid (h.bl ((Bl.refl W).alloc (.cells #[.int .i64 0, .int .i64 0, .string ⟨#[]⟩, .int .i64 0, .int .i64 0, .string ⟨#[]⟩] 53)))
  clear h
  go_enter Tryz.func29, Tryz.ntmps29
  go_wp2_with (first
    | (go_at_call 39; (with_reducible refine (tnone_yes H.out).mono ?_); rintro e w' ⟨rfl, rfl⟩))
  exact bodyPost_ret (v := TV 0 0 [] 0 0 []) (by simp [results, Tryz.results29, go_sem]) rfl ⟨rfl, (Bl.refl W).alloc _⟩
theorem tAt_none {W : World} {p : Option Addr} (h : NoStr W p) : Calls Tryz.prog 16 #[.pointer p] W fun e w' => e = .returned (.int .i64 0) ∧ W = w' := by
  have H := Lib.hid h
  clear h
  go_enter Tryz.func16, Tryz.ntmps16
  go_wp2_with (first
    | (go_at_call 39; (with_reducible refine (tnone_yes H.out).mono ?_); rintro e w' ⟨rfl, rfl⟩))
  go_ret
  exact ⟨rfl, rfl⟩
theorem tBack_none {W : World} {p : Option Addr} (h : NoStr W p) : Calls Tryz.prog 36 #[.pointer p, .int .i64 0] W fun e w' => e = .returned (.bool false) ∧ W = w' := by
  have H := Lib.hid h
  clear h
  go_enter Tryz.func36, Tryz.ntmps36
  go_wp2_with (first
    | (go_at_call 39; (with_reducible refine (tnone_yes H.out).mono ?_); rintro e w' ⟨rfl, rfl⟩))
  go_ret
  exact ⟨rfl, rfl⟩
set_option maxHeartbeats 1000000 in
theorem tNext_none {W : World} {p : Option Addr} (h : NoStr W p) : Calls Tryz.prog 17 #[.pointer p] W fun e w' => e = .returned (TV 0 0 [] 0 0 []) ∧ Bl W w' := by
  have hb0 : Bl W (W.alloc (.cells #[.int .i64 0, .int .i64 0, .string ⟨#[]⟩, .int .i64 0, .int .i64 0, .string ⟨#[]⟩] 53)) := (Bl.refl W).alloc _
  have hA0 := heap_new W (.cells #[.int .i64 0, .int .i64 0, .string ⟨#[]⟩, .int .i64 0, .int .i64 0, .string ⟨#[]⟩] 53)
  have H := Lib.hid (h.bl hb0)
  clear h
  go_enter Tryz.func17, Tryz.ntmps17
  go_wp2_with fail
  (with_reducible refine (tPeek_none H.out).mono ?_)
  rintro e w1 ⟨rfl, hb1⟩
  have hA1 := (hb1.block _ (by simp)).trans hA0
  have hz1 : W.heap.size < w1.heap.size := (Array.getElem?_eq_some_iff.1 hA1).1
  have H2 := Lib.hid ((H.out.bl hb1).bl ((Bl.refl w1).alloc (.cells #[.int .i64 0, .int .i64 0, .string ⟨#[]⟩, .int .i64 0, .int .i64 0, .string ⟨#[]⟩] 53)))
  have hb2 := hb0.call hb1
  obtain ⟨⟨d0, d1, d2, d3, d4, d5⟩, ⟨k0, k1, k2, k3, k4, k5⟩⟩ := cells6 hA1
  go_wp2_with (first
    | (go_at_call 39; (with_reducible refine (tnone_yes H2.out).mono ?_); rintro e w' ⟨rfl, rfl⟩))
  clear d0 d1 d2 d3 d4 d5 k0 k1 k2 k3 k4 k5
  have hS6 := heap_set6 w1 W.heap.size _ _ _ _ _ _ (.int .i64 0) (.int .i64 0) (.string ⟨#[]⟩) (.int .i64 0) (.int .i64 0) (.string ⟨#[]⟩) 53 hA1
  have hB6 := bl_set6 hb2 (Nat.le_refl W.heap.size) (.int .i64 0) (.int .i64 0) (.string ⟨#[]⟩) (.int .i64 0) (.int .i64 0) (.string ⟨#[]⟩)
  generalize (((((w1.setCell ⟨W.heap.size, 0, none⟩ (.int .i64 0)).setCell ⟨W.heap.size, 1, none⟩ (.int .i64 0)).setCell ⟨W.heap.size, 2, none⟩ (.string ⟨#[]⟩)).setCell ⟨W.heap.size, 3, none⟩ (.int .i64 0)).setCell ⟨W.heap.size, 4, none⟩ (.int .i64 0)).setCell ⟨W.heap.size, 5, none⟩ (.string ⟨#[]⟩) = W6 at *
  have hl6 : W.heap.size < W6.heap.size := (Array.getElem?_eq_some_iff.1 hS6).1
  have hS7 := (heap_old W6 (.cells #[.int .i64 0, .int .i64 0, .string ⟨#[]⟩, .int .i64 0, .int .i64 0, .string ⟨#[]⟩] 53) hl6).trans hS6
  obtain ⟨⟨q0, q1, q2, q3, q4, q5⟩, -⟩ := cells6 hS7
  exact bodyPost_ret (v := TV 0 0 [] 0 0 []) (by simp [results, Tryz.results17, go_sem, q0, q1, q2, q3, q4, q5]) rfl ⟨rfl, hB6.alloc _⟩
theorem tName_none {W : World} {p : Option Addr} (h : NoStr W p) : Calls Tryz.prog 110 #[.pointer p] W fun e w' => e = .returned (.tuple #[S [], .bool false]) ∧ Bl W w' := by
  have H := Lib.hid h
  clear h
  go_enter Tryz.func110, Tryz.ntmps110
  go_wp2_with (first
    | (go_at_call 29; (with_reducible refine (tPeek_none H.out).mono ?_); rintro e w1 ⟨rfl, hb1⟩))
  go_ret2
  exact ⟨rfl, hb1.alloc _⟩

end Go.Proofs.YtepkfkfedmbmnaaGreatDoor

namespace Go.Proofs.YtepkfkfedmbmnaaGreatDoor
open Go.RowKit
set_option maxRecDepth 100000

/-- The reference's stream as a value. -/
abbrev RS (g n cap k : Nat) : Value := .agg #[.slice (some ⟨g, 0, none⟩) n cap, .int .i64 (k : Int)]

set_option maxHeartbeats 1000000 in
theorem rPeek_any {W : World} {g cap k : Nat} {ts : List Tok} (h : Row W g ts) (_hfew : ts.length ≤ 100000) {x : Tok} (hx : ts[k]? = some x) : Calls Tryz.prog 30 #[RS g ts.length cap k] W fun e w' => e = .returned (TVt x) ∧ Bl W w' := by
  have hkl := (List.getElem?_eq_some_iff.1 hx).1
  have h6 := h.at hx
  have hgl : g < W.heap.size := World.block_lt_of_cell? _ _ h6.1
  obtain ⟨xk, xp, xt, xa, xb, xc⟩ := x
  obtain ⟨a0, a1, a2, a3, a4, a5⟩ := h6
  simp only at a0 a1 a2 a3 a4 a5
  clear h hx
  go_enter Tryz.func30, Tryz.ntmps30
  go_wp2_with fail
  exact bodyPost_ret (v := TV xk xp xt xa xb xc) (by simp [results, Tryz.results30, go_sem]) rfl ⟨rfl, ((Bl.refl W).alloc _).alloc _⟩

set_option maxHeartbeats 1000000 in
theorem rNext_any {W : World} {g n cap k : Nat} (hk : k < n) (hfew : n ≤ 100000) : Calls Tryz.prog 18 #[RS g n cap k] W fun e w' => e = .returned (RS g n cap (nextK n k)) ∧ Bl W w' := by
  by_cases h1 : k + 1 < n
  · have HK : Hid ((nextK n k : Int) = (k : Int) + 1) := by show _ = _; unfold nextK; rw [if_pos h1]; simp
    have h1' : (k : Int) + 1 < (n : Int) := by omega
    go_enter Tryz.func18, Tryz.ntmps18
    go_wp2_with fail
    exact bodyPost_ret (v := .agg #[.slice (some ⟨g, 0, none⟩) n cap, .int .i64 ((k : Int) + 1)]) (by simp [results, Tryz.results18, go_sem]) rfl ⟨by show _ = Ending.returned (.agg #[.slice (some ⟨g, 0, none⟩) n cap, .int .i64 ((nextK n k : Nat) : Int)]); rw [HK.out], ((Bl.refl W).alloc _).alloc _⟩
  · have HK : Hid ((nextK n k : Int) = (k : Int)) := by show _ = _; unfold nextK; rw [if_neg h1]; omega
    have h1' : ¬ ((k : Int) + 1 < (n : Int)) := by omega
    go_enter Tryz.func18, Tryz.ntmps18
    go_wp2_with fail
    exact bodyPost_ret (v := .agg #[.slice (some ⟨g, 0, none⟩) n cap, .int .i64 (k : Int)]) (by simp [results, Tryz.results18, go_sem]) rfl ⟨by show _ = Ending.returned (.agg #[.slice (some ⟨g, 0, none⟩) n cap, .int .i64 ((nextK n k : Nat) : Int)]); rw [HK.out], ((Bl.refl W).alloc _).alloc _⟩

def isB (x : Tok) (s : List UInt8) : Bool := (x.k == 1 || x.k == 3) && (x.t == s)
set_option maxHeartbeats 2000000 in
theorem rIs15_any {W : World} {g cap k : Nat} {ts : List Tok} (h : Row W g ts) (hfew : ts.length ≤ 100000) {x : Tok} (hx : ts[k]? = some x) (s : List UInt8) : Calls Tryz.prog 93 #[RS g ts.length cap k, S s] W fun e w' => e = .returned (.bool (isB x s)) ∧ Bl W w' := by
  have H := Lib.hid (h.bl ((Bl.refl W).alloc (.cells #[.slice (some ⟨g, 0, none⟩) ts.length cap, .int .i64 (k : Int)] 46)))
  have HX := Lib.hid hx
  clear h hx
  go_enter Tryz.func93, Tryz.ntmps93
  go_wp2_with fail
  (with_reducible refine (rPeek_any H.out hfew HX.out).mono ?_)
  rintro e w1 ⟨rfl, hb1⟩
  have hB : Bl W w1 := ((Bl.refl W).alloc _).call hb1
  have hB2 := hB.alloc (.cells #[.int .i64 x.k, .int .i64 (x.pos : Int), S x.t, .int .i64 x.v.1, .int .i64 x.v.2.1, S x.v.2.2] 53)
  obtain ⟨xk, xp, xt, xa, xb, xc⟩ := x
  by_cases hk1 : xk = 1
  · subst hk1
    cases he : (xt == s)
    all_goals
      have HE : Hid (isB ⟨1, xp, xt, (xa, xb, xc)⟩ s = (xt == s)) := by show _ = _; simp [isB]
      have HH := Lib.hid he
      go_wp2_with fail
      go_ret
      exact ⟨ret_bool (by rw [HE.out, HH.out]), hB2⟩
  by_cases hk3 : xk = 3
  · subst hk3
    cases he : (xt == s)
    all_goals
      have HE : Hid (isB ⟨3, xp, xt, (xa, xb, xc)⟩ s = (xt == s)) := by show _ = _; simp [isB]
      have HH := Lib.hid he
      go_wp2_with fail
      go_ret
      exact ⟨ret_bool (by rw [HE.out, HH.out]), hB2⟩
  · have b1 : (xk == 1) = false := by simpa using hk1
    have b3 : (xk == 3) = false := by simpa using hk3
    have HE : Hid (isB ⟨xk, xp, xt, (xa, xb, xc)⟩ s = false) := by show _ = _; simp [isB, b1, b3]
    clear hk1 hk3
    go_wp2_with fail
    go_ret
    exact ⟨ret_bool HE.out.symm, hB2⟩

set_option maxHeartbeats 2000000 in
theorem rwords_any (w : World) : Calls Tryz.prog 106 #[] w fun e w' => e = .returned (.slice (some ⟨w.heap.size, 0, none⟩) 61 61) ∧ w' = w.alloc (.cells kwC 9) := by
  go_enter Tryz.func106, Tryz.ntmps106
  go_wp2
  go_ret
  exact ⟨rfl, rfl⟩

theorem kwB_no {x : List UInt8} (h : ∀ j, j < 61 → (kwL.getD j [] == x) = false) : kwB x = false := by
  unfold kwB
  cases hb : kwL.contains x with
  | false => rfl
  | true =>
    have hm : x ∈ kwL := by simpa using hb
    obtain ⟨j, hj, e⟩ := List.mem_iff_getElem.1 hm
    have h61 : j < 61 := hj
    have := h j h61
    rw [List.getD_eq_getElem?_getD, List.getElem?_eq_getElem hj] at this
    simp [e] at this
theorem kwB_yes {x : List UInt8} {j : Nat} (hj : j < 61) (h : (kwL.getD j [] == x) = true) : kwB x = true := by
  have hj' : j < kwL.length := hj
  have e : kwL.getD j [] = x := eq_of_beq h
  rw [List.getD_eq_getElem?_getD, List.getElem?_eq_getElem hj'] at e
  simp at e
  unfold kwB
  simp
  rw [← e]
  exact List.getElem_mem hj'

set_option maxHeartbeats 2000000 in
theorem rKeyword_any (x : List UInt8) (w : World) : Calls Tryz.prog 70 #[S x] w fun e w' => e = .returned (.bool (kwB x)) ∧ Bl w w' := by
  have HC : Hid (∀ j, j < 61 → (w.alloc (.cells kwC 9)).cell? ⟨w.heap.size, j, none⟩ = some (S (kwL.getD j []))) := by
    intro j hj
    rw [Lib.cell_of_heap (heap_new w _)]
    exact kw_get j hj
  go_enter Tryz.func70, Tryz.ntmps70
  go_wp2_with fail
  (with_reducible refine (rwords_any _).mono ?_)
  rintro e w1 ⟨rfl, rfl⟩
  have hB : Bl w (w.alloc (.cells kwC 9)) := (Bl.refl w).alloc _
  generalize w.alloc (.cells kwC 9) = w1 at *
  go_wp2_with fail
  go_loop [4] (fun i => ∃ k : Nat, k ≤ 61 ∧ i = .int .i64 k ∧ Hid (∀ j, j < k → j < 61 → (kwL.getD j [] == x) = false)) (fun i => 61 - (intOf i).toNat)
  case atStart => exact ⟨0, by omega, rfl, fun j h => by omega⟩
  case round =>
    obtain ⟨k, hk, rfl, HN⟩ := hrel
    by_cases hlt : k < 61
    · have hcell := HC.out k hlt
      have HY : Hid ((kwL.getD k [] == x) = true → kwB x = true) := fun h => kwB_yes hlt h
      have HZ : Hid ((kwL.getD k [] == x) = false → ∀ j, j < k + 1 → j < 61 → (kwL.getD j [] == x) = false) := fun h j h1 h2 => by
        by_cases e : j = k
        · rw [e]; exact h
        · exact HN.out j (by omega) h2
      generalize kwL.getD k [] = y at *
      cases he : (y == x)
      · have HQ := Lib.hid (HZ.out he)
        go_wp2
        go_round
        case rel => exact ⟨k + 1, by omega, by go_num, HQ.out⟩
        case measure => simp [intOf]; omega
      · have HQ := Lib.hid (HY.out he)
        go_wp2
        go_ret
        exact ⟨ret_bool HQ.out.symm, hB⟩
    · obtain rfl : k = 61 := by omega
      have HQ := Lib.hid (kwB_no (fun j hj => HN.out j hj hj))
      go_wp2
      go_ret
      exact ⟨ret_bool HQ.out.symm, hB⟩

end Go.Proofs.YtepkfkfedmbmnaaGreatDoor

namespace Go.Proofs.YtepkfkfedmbmnaaGreatDoor
open Go.RowKit
set_option maxRecDepth 100000

theorem heap_two (w : World) (b : Nat) (x0 x1 y0 y1 : Value) (t : TypeId) (h : w.heap[b]? = some (.cells #[x0, x1] t (0, 0))) :
    ((w.setCell ⟨b, 0, none⟩ y0).setCell ⟨b, 1, none⟩ y1).heap[b]? = some (.cells #[y0, y1] t (0, 0)) := by
  simp [World.setCell, Array.getElem?_modify, h]
theorem heap_two_other (W : World) {b i : Nat} (hi : i ≠ b) (y0 y1 : Value) : ((W.setCell ⟨b, 0, none⟩ y0).setCell ⟨b, 1, none⟩ y1).heap[i]? = W.heap[i]? := by
  rw [heap_set_other _ ⟨b, 1, none⟩ _ _ hi, heap_set_other _ ⟨b, 0, none⟩ _ _ hi]
theorem bl_two {w W : World} {b : Nat} (h : Bl w W) (hb : w.heap.size ≤ b) (y0 y1 : Value) : Bl w ((W.setCell ⟨b, 0, none⟩ y0).setCell ⟨b, 1, none⟩ y1) := (h.set hb _).set hb _

theorem three_0 (W : World) (o1 o2 o3 : Obj) : (((W.alloc o1).alloc o2).alloc o3).heap[W.heap.size]? = some o1 := by
  rw [heap_old _ _ (by simp; omega), heap_old _ _ (by simp), heap_new]
theorem three_1 (W : World) (o1 o2 o3 : Obj) : (((W.alloc o1).alloc o2).alloc o3).heap[W.heap.size + 1]? = some o2 := by
  rw [heap_old _ _ (by simp), heap_new' _ _ (by simp)]
/-- Where a stream is behind these texts; none: it is not at them. -/
def takeK (ts : List Tok) : Nat → List (List UInt8) → Option Nat
  | k, [] => some k
  | k, s :: r => match ts[k]? with
    | some x => if isB x s then takeK ts (nextK ts.length k) r else none
    | none => none
theorem takeK_cons {ts : List Tok} {k : Nat} {x : Tok} (hx : ts[k]? = some x) (s : List UInt8) (r : List (List UInt8)) : takeK ts k (s :: r) = if isB x s then takeK ts (nextK ts.length k) r else none := by
  simp only [takeK, hx]
theorem takeK_app (ts : List Tok) : ∀ (a b : List (List UInt8)) (k : Nat), takeK ts k (a ++ b) = (takeK ts k a).bind fun k' => takeK ts k' b
  | [], b, k => rfl
  | s :: r, b, k => by
    simp only [List.cons_append, takeK]
    cases ts[k]? with
    | none => rfl
    | some x =>
      simp only
      split
      · exact takeK_app ts r b _
      · rfl
theorem takeK_lt {ts : List Tok} : ∀ {l : List (List UInt8)} {k k' : Nat}, k < ts.length → takeK ts k l = some k' → k' < ts.length
  | [], k, k', hk, h => by injection h with h; omega
  | s :: r, k, k', hk, h => by
    obtain ⟨x, hx⟩ : ∃ x, ts[k]? = some x := ⟨_, List.getElem?_eq_getElem hk⟩
    rw [takeK_cons hx] at h
    split at h
    · exact takeK_lt (nextK_lt hk) h
    · cases h
theorem takeK_step {ts : List Tok} {xs : List (List UInt8)} {j k k' : Nat} {x : Tok} (hj : j < xs.length) (h : takeK ts k (xs.take j) = some k') (hx : ts[k']? = some x) (hb : isB x xs[j] = true) : takeK ts k (xs.take (j + 1)) = some (nextK ts.length k') := by
  rw [List.take_succ_eq_append_getElem hj, takeK_app, h, Option.bind_some, takeK_cons hx, if_pos hb]
  rfl
theorem takeK_stop {ts : List Tok} {xs : List (List UInt8)} {j k k' : Nat} {x : Tok} (hj : j < xs.length) (h : takeK ts k (xs.take j) = some k') (hx : ts[k']? = some x) (hb : isB x xs[j] = false) : takeK ts k xs = none := by
  have e : xs = xs.take j ++ (xs[j] :: xs.drop (j + 1)) := by rw [← List.drop_eq_getElem_cons hj, List.take_append_drop]
  rw [e, takeK_app, h, Option.bind_some, takeK_cons hx, hb]
  rfl

/-- The slice value sv holds these texts. -/
def Strs (W : World) (sv : Value) (xs : List (List UInt8)) : Prop :=
  ∃ a cap, sv = .slice a xs.length cap ∧ ∀ j, (h : j < xs.length) → ∃ b off, a = some ⟨b, off, none⟩ ∧ W.cell? ⟨b, off + j, none⟩ = some (S xs[j])
theorem Strs.bl {W W' : World} (hb : Bl W W') {sv : Value} {xs : List (List UInt8)} (h : Strs W sv xs) : Strs W' sv xs := by
  obtain ⟨a, cap, e, hc⟩ := h
  refine ⟨a, cap, e, fun j hj => ?_⟩
  obtain ⟨b, off, e2, c⟩ := hc j hj
  exact ⟨b, off, e2, hb.cell c⟩
theorem Strs.shape {W : World} {sv : Value} {xs : List (List UInt8)} (h : Strs W sv xs) : ∃ a cap, sv = .slice a xs.length cap ∧ ∀ j, (h : j < xs.length) → ∃ b off, a = some ⟨b, off, none⟩ ∧ W.cell? ⟨b, off + j, none⟩ = some (S xs[j]) := h

end Go.Proofs.YtepkfkfedmbmnaaGreatDoor

namespace Go.Proofs.YtepkfkfedmbmnaaGreatDoor
open Go.RowKit
set_option maxRecDepth 100000

def RNamePost (W : World) (g n cap k : Nat) (x : Tok) (e : Ending) (w' : World) : Prop :=
  Bl W w' ∧ ((isName1 x = true ∧ e = .returned (.tuple #[RS g n cap (nextK n k), S x.t, .bool true])) ∨ (isName1 x = false ∧ e = .returned (.tuple #[RS g n cap k, S [], .bool false])))

theorem keep3 {w A B : World} {p0 p1 p2 : Addr} {v0 v1 v2 : Value} (h : A.cell? p0 = some v0 ∧ A.cell? p1 = some v1 ∧ A.cell? p2 = some v2 ∧ Bl w A) (hb : Bl A B) : B.cell? p0 = some v0 ∧ B.cell? p1 = some v1 ∧ B.cell? p2 = some v2 ∧ Bl w B :=
  ⟨hb.cell h.1, hb.cell h.2.1, hb.cell h.2.2.1, h.2.2.2.call hb⟩

set_option maxHeartbeats 4000000 in
theorem rName_any {W : World} {g cap k : Nat} {ts : List Tok} (h : Row W g ts) (hfew : ts.length ≤ 100000) {x : Tok} (hx : ts[k]? = some x) : Calls Tryz.prog 94 #[RS g ts.length cap k] W (RNamePost W g ts.length cap k x) := by
  have hkl := (List.getElem?_eq_some_iff.1 hx).1
  have H := Lib.hid (h.bl (((Bl.refl W).alloc (.cells #[.slice (some ⟨g, 0, none⟩) ts.length cap, .int .i64 (k : Int)] 46)).alloc (.cells #[.slice none 0 0, .int .i64 0] 46)))
  have HX := Lib.hid hx
  have hA0 := (heap_old (W.alloc (.cells #[.slice (some ⟨g, 0, none⟩) ts.length cap, .int .i64 (k : Int)] 46)) (.cells #[.slice none 0 0, .int .i64 0] 46) (by simp)).trans (heap_new W (.cells #[.slice (some ⟨g, 0, none⟩) ts.length cap, .int .i64 (k : Int)] 46))
  have hR0 : ((W.alloc (.cells #[.slice (some ⟨g, 0, none⟩) ts.length cap, .int .i64 (k : Int)] 46)).alloc (.cells #[.slice none 0 0, .int .i64 0] 46)).heap[W.heap.size + 1]? = _ := heap_new' _ _ (by simp)
  clear h hx
  go_enter Tryz.func94, Tryz.ntmps94
  go_wp2_with fail
  (with_reducible refine (rPeek_any H.out hfew HX.out).mono ?_)
  rintro e w1 ⟨rfl, hb1⟩
  have hA1 := (hb1.block _ (by simp; omega)).trans hA0
  have hR1 := (hb1.block _ (by simp)).trans hR0
  have hB : Bl W w1 := (((Bl.refl W).alloc _).alloc _).call hb1
  obtain ⟨xk, xp, xt, xa, xb, xc⟩ := x
  have hT2 := heap_new w1 (.cells #[.int .i64 xk, .int .i64 (xp : Int), S xt, .int .i64 xa, .int .i64 xb, S xc] 53)
  have hA2 := (heap_old w1 (.cells #[.int .i64 xk, .int .i64 (xp : Int), S xt, .int .i64 xa, .int .i64 xb, S xc] 53) (Array.getElem?_eq_some_iff.1 hA1).1).trans hA1
  have hR2 := (heap_old w1 (.cells #[.int .i64 xk, .int .i64 (xp : Int), S xt, .int .i64 xa, .int .i64 xb, S xc] 53) (Array.getElem?_eq_some_iff.1 hR1).1).trans hR1
  have hB0 := hB
  have hB2 := hB.alloc (.cells #[.int .i64 xk, .int .i64 (xp : Int), S xt, .int .i64 xa, .int .i64 xb, S xc] 53)
  have hz : W.heap.size + 1 < w1.heap.size := (Array.getElem?_eq_some_iff.1 hR1).1
  clear hA0 hR0 hb1 hB
  by_cases hk1 : xk = 1
  · subst hk1
    cases hkw : kwB xt
    · have HN : Hid (isName1 ⟨1, xp, xt, (xa, xb, xc)⟩ = true) := by show _ = _; simp [isName1, hkw]
      have HKW := Lib.hid hkw
      clear hkw hA1 hR1
      go_wp2_with (first
        | (go_at_call 70; (with_reducible refine (rKeyword_any xt _).mono ?_); rintro e w2 ⟨rfl, hb3⟩; rw [HKW.out]))
      have hT3 := (hb3.block _ (by simp)).trans hT2
      have hA3 := (hb3.block _ (by simp; omega)).trans hA2
      have hR3 := (hb3.block _ (by simp; omega)).trans hR2
      have hB3 := hB2.call hb3
      clear hb3 hT2 hA2 hR2 hB2
      obtain ⟨a0, a1, -, -, hla⟩ := cells2 hA3
      obtain ⟨r0, r1, z0, z1, hlr⟩ := cells2 hR3
      have t2 : w2.cell? ⟨w1.heap.size, 2, none⟩ = some (S xt) := by rw [Lib.cell_of_heap hT3]; rfl
      have HS := Lib.hid (keep3 ⟨a0, a1, t2, hB3⟩ ((Bl.refl w2).drew))
      have HR3 := Lib.hid hR3
      clear hA3 hT3 hR3
      have hNx : ∀ W', Calls Tryz.prog 18 #[RS g ts.length cap k] W' fun e w' => e = .returned (RS g ts.length cap (nextK ts.length k)) ∧ Bl W' w' := fun W' => rNext_any hkl hfew
      have HNx := Lib.hid hNx
      have hB3d : Bl w2 w2.drew := (Bl.refl w2).drew
      clear hNx
      go_wp2_with fail
      refine wp_region_noPanic (wp_region_sched (fun w' => w'.cell? ⟨W.heap.size, 0, none⟩ = some (.slice (some ⟨g, 0, none⟩) ts.length cap) ∧ w'.cell? ⟨W.heap.size, 1, none⟩ = some (.int .i64 (k : Int)) ∧ w'.cell? ⟨w1.heap.size, 2, none⟩ = some (S xt) ∧ Bl W w') [(0, true), (2, true), (3, true), (1, false), (4, false), (5, true), (6, true)] (by kernel_rfl) rfl (by kernel_rfl) (by kernel_rfl) (fun _ _ _ _ _ h => h) HS.out ?_)
      have hHeld := HS.out
      refine sched_take' rfl (by rfl) (by intro w hSw; (try dsimp only at hSw); go_simp; (try (first | with_reducible rfl | rfl))) ?_; (try simp only [Act.put, List.setIfInBounds_toArray, List.set_cons_zero, List.set_cons_succ])
      refine sched_take' rfl (by rfl) (by intro w hSw; (try dsimp only at hSw); go_simp; (try (first | with_reducible rfl | rfl))) ?_; (try simp only [Act.put, List.setIfInBounds_toArray, List.set_cons_zero, List.set_cons_succ])
      refine sched_take' rfl (by rfl) (by intro w hSw; (try dsimp only at hSw); go_simp; (try (first | with_reducible rfl | rfl))) ?_; (try simp only [Act.put, List.setIfInBounds_toArray, List.set_cons_zero, List.set_cons_succ])
      refine sched_call' rfl (fun K hK => ?_); go_simp; ((with_reducible refine (HNx.out _).mono ?_); rintro e w' ⟨rfl, hb⟩); go_wp2_with fail; refine hK.out _ _ (keep3 hHeld hb) (fun hHeld2 => ?_); clear hHeld hK K; have hHeld := hHeld2; clear hHeld2
      have hR4 : w'.heap[W.heap.size + 1]? = some (.cells #[.slice none 0 0, .int .i64 0] 46 (0, 0)) := (hb.block _ (by show _ < w2.heap.size; omega)).trans HR3.out
      have hBw : Bl W w' := hHeld.2.2.2
      have hA := hHeld.1
      have hA' := hHeld.2.1
      have hA2 := hHeld.2.2.1
      obtain ⟨q0, q1, f0, f1, hl4⟩ := cells2 hR4
      have hne : w1.heap.size ≠ W.heap.size + 1 := by omega
      have HS5 := Lib.hid (heap_two w' (W.heap.size + 1) (.slice none 0 0) (.int .i64 0) (.slice (some ⟨g, 0, none⟩) ts.length cap) (.int .i64 (nextK ts.length k : Int)) 46 hR4)
      have HB5 := Lib.hid (bl_two hBw (b := W.heap.size + 1) (by omega) (.slice (some ⟨g, 0, none⟩) ts.length cap) (.int .i64 (nextK ts.length k : Int)))
      clear hb hR4 hBw
      refine sched_call' rfl (fun K hK => ?_); go_simp; refine hK.out _ _ (⟨set_apart (set_apart hA (by simp)) (by simp), set_apart (set_apart hA' (by simp)) (by simp), set_apart (set_apart hA2 hne) hne, HB5.out⟩) (fun hHeld2 => ?_); clear hHeld hK K; have hHeld := hHeld2; clear hHeld2
      clear q0 q1 f0 f1
      obtain ⟨q0, q1, f0, f1, hl5⟩ := cells2 HS5.out
      refine sched_take' rfl (by rfl) (by intro w hSw; (try dsimp only at hSw); go_simp; (try (first | with_reducible rfl | rfl))) ?_; (try simp only [Act.put, List.setIfInBounds_toArray, List.set_cons_zero, List.set_cons_succ])
      refine sched_take' rfl (by rfl) (by intro w hSw; (try dsimp only at hSw); go_simp; (try (first | with_reducible rfl | rfl))) ?_; (try simp only [Act.put, List.setIfInBounds_toArray, List.set_cons_zero, List.set_cons_succ])
      refine sched_nil (NoPanic.normal ?_)
      go_wp2_with fail
      exact bodyPost_ret (v := .tuple #[RS g ts.length cap (nextK ts.length k), S xt, .bool true]) (by simp [results, Tryz.results94, go_sem, q0, q1]) rfl ⟨HB5.out, .inl ⟨HN.out, rfl⟩⟩
    · have HN : Hid (isName1 ⟨1, xp, xt, (xa, xb, xc)⟩ = false) := by show _ = _; simp [isName1, hkw]
      have HKW := Lib.hid hkw
      clear hkw hR1
      go_wp2_with fail
      (with_reducible refine (rKeyword_any xt _).mono ?_)
      rintro e w2 ⟨rfl, hb3⟩
      rw [HKW.out]
      have hA3 := (hb3.block _ (by simp; omega)).trans hA2
      have hR3 := (hb3.block _ (by simp; omega)).trans hR2
      have hB3 := hB2.call hb3
      clear hb3 hT2 hA2 hR2 hB2
      obtain ⟨a0, a1, -, -, hla⟩ := cells2 hA3
      obtain ⟨r0, r1, z0, z1, hlr⟩ := cells2 hR3
      have HS5 := Lib.hid (heap_two w2 (W.heap.size + 1) (.slice none 0 0) (.int .i64 0) (.slice (some ⟨g, 0, none⟩) ts.length cap) (.int .i64 (k : Int)) 46 hR3)
      have HB5 := Lib.hid (bl_two hB3 (b := W.heap.size + 1) (by omega) (.slice (some ⟨g, 0, none⟩) ts.length cap) (.int .i64 (k : Int)))
      clear hA3 hR3 hA1
      go_wp2_with fail
      obtain ⟨q0, q1, f0, f1, hl5⟩ := cells2 HS5.out
      exact bodyPost_ret (v := .tuple #[RS g ts.length cap k, S [], .bool false]) (by simp [results, Tryz.results94, go_sem, q0, q1]) rfl ⟨HB5.out, .inr ⟨HN.out, rfl⟩⟩
  · have hkb : (xk != 1) = true := by simpa using hk1
    have hkb' : (xk == 1) = false := by simpa using hk1
    have HN : Hid (isName1 ⟨xk, xp, xt, (xa, xb, xc)⟩ = false) := by show _ = _; simp [isName1, hk1]
    clear hk1
    obtain ⟨a0, a1, -, -, hla⟩ := cells2 hA1
    obtain ⟨r0, r1, z0, z1, hlr⟩ := cells2 hR1
    have HS5 := Lib.hid (heap_two _ (W.heap.size + 1) (.slice none 0 0) (.int .i64 0) (.slice (some ⟨g, 0, none⟩) ts.length cap) (.int .i64 (k : Int)) 46 hR1)
    have HB5 := Lib.hid ((bl_two hB0 (b := W.heap.size + 1) (by omega) (.slice (some ⟨g, 0, none⟩) ts.length cap) (.int .i64 (k : Int))).alloc (.cells #[.int .i64 xk, .int .i64 (xp : Int), S xt, .int .i64 xa, .int .i64 xb, S xc] 53))
    clear hT2 hA2 hR2 hA1 hR1
    go_wp2_with fail
    have hS6 := (heap_old _ (.cells #[.int .i64 xk, .int .i64 (xp : Int), S xt, .int .i64 xa, .int .i64 xb, S xc] 53) (Array.getElem?_eq_some_iff.1 HS5.out).1).trans HS5.out
    obtain ⟨q0, q1, f0, f1, hl5⟩ := cells2 hS6
    exact bodyPost_ret (v := .tuple #[RS g ts.length cap k, S [], .bool false]) (by simp only [results, Tryz.results94]; simp [go_sem, q0, q1]) rfl ⟨HB5.out, .inr ⟨HN.out, rfl⟩⟩

end Go.Proofs.YtepkfkfedmbmnaaGreatDoor

namespace Go.Proofs.YtepkfkfedmbmnaaGreatDoor
open Go.RowKit
set_option maxRecDepth 100000

def takeEnd (g cap : Nat) (ts : List Tok) (k : Nat) (xs : List (List UInt8)) : Ending := match takeK ts k xs with
  | some k' => .returned (.tuple #[RS g ts.length cap k', .bool true])
  | none => .returned (.tuple #[RS g ts.length cap k, .bool false])

theorem keep4 {w A B : World} {p0 p1 p2 : Addr} {v0 v1 v2 : Value} (h : A.cell? p0 = some v0 ∧ A.cell? p1 = some v1 ∧ A.cell? p2 = some v2 ∧ Bl w A) (hb : Bl A B) : B.cell? p0 = some v0 ∧ B.cell? p1 = some v1 ∧ B.cell? p2 = some v2 ∧ Bl w B :=
  ⟨hb.cell h.1, hb.cell h.2.1, hb.cell h.2.2.1, h.2.2.2.call hb⟩

set_option maxHeartbeats 4000000 in
theorem rTake_any {W : World} {g cap k : Nat} {ts : List Tok} (h : Row W g ts) (hfew : ts.length ≤ 100000) (hk : k < ts.length) (sv : Value) (xs : List (List UInt8)) (hxs : Strs W sv xs) (hm : xs.length ≤ 1000000) :
    Calls Tryz.prog 64 #[RS g ts.length cap k, sv] W fun e w' => e = takeEnd g cap ts k xs ∧ Bl W w' := by
  have H := Lib.hid h
  obtain ⟨a, capx, rfl, hxc⟩ := hxs.shape
  have HXC := Lib.hid hxc
  clear h hxs hxc
  go_enter Tryz.func64, Tryz.ntmps64
  go_wp2_with fail
  go_loopw [7] (fun i wr => ∃ (j k' : Nat), j ≤ xs.length ∧ i = .int .i64 (j : Int) ∧ k' < ts.length ∧ Hid (takeK ts k (xs.take j) = some k') ∧ Bl W wr ∧
    Hid (wr.heap[W.heap.size]? = some (.cells #[.slice (some ⟨g, 0, none⟩) ts.length cap, .int .i64 (k : Int)] 46 (0, 0))) ∧ Hid (wr.heap[W.heap.size + 1]? = some (.cells #[.slice none 0 0, .int .i64 0] 46 (0, 0))) ∧
    Hid (wr.heap[W.heap.size + 2]? = some (.cells #[.slice (some ⟨g, 0, none⟩) ts.length cap, .int .i64 (k' : Int)] 46 (0, 0)))) (fun i _ => xs.length - (intOf i).toNat)
  case atStart =>
    exact ⟨0, k, Nat.zero_le _, rfl, hk, rfl, (((Bl.refl W).alloc _).alloc _).alloc _, three_0 _ _ _ _, three_1 _ _ _ _, heap_new' _ _ (by simp)⟩
  case round =>
    obtain ⟨j, k', hj, rfl, hk', HT, hB, HA, HZ, HR⟩ := hrel
    obtain ⟨x, hx⟩ : ∃ x, ts[k']? = some x := ⟨_, List.getElem?_eq_getElem hk'⟩
    have HX := Lib.hid hx
    clear hx
    by_cases hlt : j < xs.length
    · obtain ⟨b, off, rfl, hcell⟩ := HXC.out j hlt
      have hc := hB.cell hcell
      have hc' := (Bl.refl wr).drew.cell hc
      obtain ⟨r0, r1, z0, z1, hlr⟩ := cells2 HR.out
      have HIs : Hid (∀ W', Bl W W' → Calls Tryz.prog 93 #[RS g ts.length cap k', S xs[j]] W' fun e w' => e = .returned (.bool (isB x xs[j])) ∧ Bl W' w') := fun W' hb => rIs15_any (H.out.bl hb) hfew HX.out _
      have HS := Lib.hid (show _ ∧ _ ∧ _ ∧ Bl W wr.drew from ⟨(Bl.refl wr).drew.cell r0, (Bl.refl wr).drew.cell r1, hc', hB.drew⟩)
      have hbd := Lib.hid ((Bl.refl wr).drew)
      clear hcell hc hc' r0 r1 z0 z1
      generalize hsj : xs[j] = sj at *
      have HSJ := Lib.hid hsj
      clear hsj
      cases hi : isB x sj
      all_goals
        have HI := Lib.hid hi
        clear hi
        go_wp2_with fail
        refine wp_region_noPanic (wp_region_sched (fun w' => w'.cell? ⟨W.heap.size + 2, 0, none⟩ = some (.slice (some ⟨g, 0, none⟩) ts.length cap) ∧ w'.cell? ⟨W.heap.size + 2, 1, none⟩ = some (.int .i64 (k' : Int)) ∧ w'.cell? ⟨b, off + j, none⟩ = some (S sj) ∧ Bl W w') [(0, true), (1, true), (2, true), (3, true), (4, true), (5, false), (6, true)] (by kernel_rfl) rfl (by kernel_rfl) (by kernel_rfl) (fun _ _ _ _ _ h => h) HS.out ?_)
        have hHeld := HS.out
        refine sched_take' rfl (by rfl) (by intro w hSw; (try dsimp only at hSw); go_simp; (try (first | with_reducible rfl | rfl))) ?_; (try simp only [Act.put, List.setIfInBounds_toArray, List.set_cons_zero, List.set_cons_succ])
        refine sched_take' rfl (by rfl) (by intro w hSw; (try dsimp only at hSw); go_simp; (try (first | with_reducible rfl | rfl))) ?_; (try simp only [Act.put, List.setIfInBounds_toArray, List.set_cons_zero, List.set_cons_succ])
        refine sched_take' rfl (by rfl) (by intro w hSw; (try dsimp only at hSw); go_simp; (try (first | with_reducible rfl | rfl))) ?_; (try simp only [Act.put, List.setIfInBounds_toArray, List.set_cons_zero, List.set_cons_succ])
        refine sched_take' rfl (by rfl) (by intro w hSw; (try dsimp only at hSw); go_simp; (try (first | with_reducible rfl | rfl))) ?_; (try simp only [Act.put, List.setIfInBounds_toArray, List.set_cons_zero, List.set_cons_succ])
        refine sched_take' rfl (by rfl) (by intro w hSw; (try dsimp only at hSw); go_simp; (try (first | with_reducible rfl | rfl))) ?_; (try simp only [Act.put, List.setIfInBounds_toArray, List.set_cons_zero, List.set_cons_succ])
        refine sched_call' rfl (fun K hK => ?_); go_simp; ((with_reducible refine (HIs.out _ hHeld.2.2.2).mono ?_); rintro e w' ⟨rfl, hb⟩; rw [HI.out]; have HB2 := Lib.hid (hbd.out.call hb)); go_wp2_with fail; refine hK.out _ _ (keep4 hHeld hb) (fun hHeld2 => ?_); clear hHeld hK K; have hHeld := hHeld2; clear hHeld2
        refine sched_take' rfl (by rfl) (by intro w hSw; (try dsimp only at hSw); go_simp; (try (first | with_reducible rfl | rfl))) ?_; (try simp only [Act.put, List.setIfInBounds_toArray, List.set_cons_zero, List.set_cons_succ])
        refine sched_nil (NoPanic.normal ?_)
        have hBw : Bl W w' := hHeld.2.2.2
        have hA := HB2.out.block _ (Array.getElem?_eq_some_iff.1 HA.out).1
        clear hHeld hb HS
      · have hAA := hA.trans HA.out
        have hZZ := (HB2.out.block _ (Array.getElem?_eq_some_iff.1 HZ.out).1).trans HZ.out
        obtain ⟨a0, a1, -, -, -⟩ := cells2 hAA
        obtain ⟨r0, r1, z0, z1, hlz⟩ := cells2 hZZ
        have HS5 := Lib.hid (heap_two _ (W.heap.size + 1) (.slice none 0 0) (.int .i64 0) (.slice (some ⟨g, 0, none⟩) ts.length cap) (.int .i64 (k : Int)) 46 hZZ)
        have HB5 := Lib.hid (bl_two hBw (b := W.heap.size + 1) (by omega) (.slice (some ⟨g, 0, none⟩) ts.length cap) (.int .i64 (k : Int)))
        have HE : Hid (takeEnd g cap ts k xs = .returned (.tuple #[RS g ts.length cap k, .bool false])) := by
          show takeEnd g cap ts k xs = _
          unfold takeEnd
          rw [takeK_stop hlt HT.out HX.out (by rw [HSJ.out]; exact HI.out)]
        clear hAA hZZ hA
        go_wp2_with fail
        obtain ⟨q0, q1, f0, f1, hl5⟩ := cells2 HS5.out
        exact bodyPost_ret (v := .tuple #[RS g ts.length cap k, .bool false]) (by simp [results, Tryz.results64, go_sem, q0, q1]) rfl ⟨HE.out.symm, HB5.out⟩
      · have hRR := (HB2.out.block _ (Array.getElem?_eq_some_iff.1 HR.out).1).trans HR.out
        have hZZ := (HB2.out.block _ (Array.getElem?_eq_some_iff.1 HZ.out).1).trans HZ.out
        have HAA := Lib.hid (hA.trans HA.out)
        have HZZ := Lib.hid hZZ
        have HRR := Lib.hid hRR
        obtain ⟨r0, r1, z0, z1, hlz⟩ := cells2 hRR
        have hlA : W.heap.size < w'.heap.size := (Array.getElem?_eq_some_iff.1 HAA.out).1
        clear hRR hZZ hA
        go_wp2_with fail
        (with_reducible refine (rNext_any hk' hfew).mono ?_)
        rintro e w2 ⟨rfl, hb⟩
        have hR2 := (hb.block _ hlz).trans HRR.out
        have HA2 := Lib.hid ((hb.block _ hlA).trans HAA.out)
        have HZ2 := Lib.hid ((hb.block _ (by omega)).trans HZZ.out)
        have HB3 := Lib.hid (hBw.call hb)
        have HS5 := Lib.hid (heap_two _ (W.heap.size + 2) _ _ (.slice (some ⟨g, 0, none⟩) ts.length cap) (.int .i64 (nextK ts.length k' : Int)) 46 hR2)
        clear r0 r1 z0 z1
        obtain ⟨r0, r1, z0, z1, hlz2⟩ := cells2 hR2
        clear hR2 hb hBw
        have hlt' : (j : Int) < (xs.length : Int) := by omega
        go_wp2
        go_roundw
        case rel => exact ⟨j + 1, nextK ts.length k', by omega, by go_num, nextK_lt hk', takeK_step hlt HT.out HX.out (by rw [HSJ.out]; exact HI.out), bl_two HB3.out (by omega) _ _, (heap_two_other _ (by omega) _ _).trans HA2.out, (heap_two_other _ (by omega) _ _).trans HZ2.out, HS5.out⟩
        case measure => simp [intOf]; omega
    · obtain rfl : j = xs.length := by omega
      have HE : Hid (takeEnd g cap ts k xs = .returned (.tuple #[RS g ts.length cap k', .bool true])) := by
        show takeEnd g cap ts k xs = _
        unfold takeEnd
        have := HT.out
        rw [List.take_length] at this
        rw [this]
      obtain ⟨a0, a1, -, -, -⟩ := cells2 HR.out
      obtain ⟨r0, r1, z0, z1, hlz⟩ := cells2 HZ.out
      have HS5 := Lib.hid (heap_two _ (W.heap.size + 1) (.slice none 0 0) (.int .i64 0) (.slice (some ⟨g, 0, none⟩) ts.length cap) (.int .i64 (k' : Int)) 46 HZ.out)
      have HB5 := Lib.hid (bl_two hB (b := W.heap.size + 1) (by omega) (.slice (some ⟨g, 0, none⟩) ts.length cap) (.int .i64 (k' : Int)))
      go_wp2_with fail
      obtain ⟨q0, q1, f0, f1, hl5⟩ := cells2 HS5.out
      exact bodyPost_ret (v := .tuple #[RS g ts.length cap k', .bool true]) (by simp [results, Tryz.results64, go_sem, q0, q1]) rfl ⟨HE.out.symm, HB5.out⟩

end Go.Proofs.YtepkfkfedmbmnaaGreatDoor

