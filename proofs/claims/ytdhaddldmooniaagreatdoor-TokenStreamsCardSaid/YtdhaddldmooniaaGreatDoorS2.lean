/- A stream's Name; of none. -/
import Derived.Test.YtdhaddldmooniaaGreatDoorS1
namespace Go.Proofs.YtdhaddldmooniaaGreatDoor
open Go.RowKit
set_option maxRecDepth 100000

def isName1 (x : Tok) : Bool := (x.k == 1) && !kwB x.t
def NamePost (W : World) (bs g cap : Nat) (ts : List Tok) (k : Nat) (x : Tok) (e : Ending) (w' : World) : Prop :=
  W.grownBy w' (some bs) ∧ ((isName1 x = true ∧ e = .returned (.tuple #[S x.t, .bool true]) ∧ Strm w' bs g cap ts (nextK ts.length k)) ∨ (isName1 x = false ∧ e = .returned (.tuple #[S [], .bool false]) ∧ Strm w' bs g cap ts k))

set_option maxHeartbeats 4000000 in
theorem tName_any {W : World} {bs g cap k : Nat} {ts : List Tok} (h : Strm W bs g cap ts k) {x : Tok} (hx : ts[k]? = some x) : Calls Tryz.prog 14 #[.pointer (some ⟨bs, 0, none⟩)] W (NamePost W bs g cap ts k x) := by
  have H := Lib.hid h
  have HX := Lib.hid hx
  have hbl : bs < W.heap.size := (Array.getElem?_eq_some_iff.1 h.own).1
  clear h hx
  go_enter Tryz.func14, Tryz.ntmps14
  go_wp2_with fail
  (with_reducible refine (tPeek_any H.out HX.out).mono ?_)
  rintro e w1 ⟨rfl, hb1⟩
  obtain ⟨xk, xp, xt, xa, xb, xc⟩ := x
  have hb2 : Bl W (w1.alloc (.cells #[.int .i64 xk, .int .i64 (xp : Int), S xt, .int .i64 xa, .int .i64 xb, S xc] 34)) := hb1.alloc _
  have HS := Lib.hid (H.out.bl hb2)
  have hsz1 := hb1.size
  by_cases hk1 : xk = 1
  · subst hk1
    cases hkw : kwB xt
    · have HN : Hid (isName1 ⟨1, xp, xt, (xa, xb, xc)⟩ = true) := by show _ = _; simp [isName1, hkw]
      have HKW := Lib.hid hkw
      clear hkw
      have hT := heap_new w1 (.cells #[.int .i64 1, .int .i64 (xp : Int), S xt, .int .i64 xa, .int .i64 xb, S xc] 34)
      go_wp2_with (first
        | (go_at_call 18; (with_reducible refine (Keyword_any xt _).mono ?_); rintro e w2 ⟨rfl, hb3⟩; rw [HKW.out]))
      have HS3 := Lib.hid (HS.out.bl hb3)
      have hT3 := (hb3.block _ (by simp)).trans hT
      have hsz3 := hb3.size
      rw [World.size_alloc] at hsz3
      (with_reducible refine (tNext_any HS3.out HX.out).mono ?_)
      rintro e w4 ⟨rfl, hg4, hs4⟩
      have hT4 := (hg4.block _ (by omega) (by simp; omega)).trans hT3
      have t2 : w4.cell? ⟨w1.heap.size, 2, none⟩ = some (S xt) := by rw [Lib.cell_of_heap hT4]; rfl
      have hg5 := grown_trans (grown_bl (hb2.call hb3) (some bs)) hg4
      clear hT hT3 hT4 hb3 hb2 hg4
      go_wp2_with fail
      go_ret2
      exact ⟨hg5, .inl ⟨HN.out, rfl, hs4⟩⟩
    · have HN : Hid (isName1 ⟨1, xp, xt, (xa, xb, xc)⟩ = false) := by show _ = _; simp [isName1, hkw]
      have HKW := Lib.hid hkw
      clear hkw
      go_wp2_with (first
        | (go_at_call 18; (with_reducible refine (Keyword_any xt _).mono ?_); rintro e w2 ⟨rfl, hb3⟩; rw [HKW.out]))
      go_ret2
      exact ⟨grown_bl (hb2.call hb3) _, .inr ⟨HN.out, rfl, HS.out.bl hb3⟩⟩
  · have hkb : (xk != 1) = true := by simpa using hk1
    have hkb' : (xk == 1) = false := by simpa using hk1
    have HN : Hid (isName1 ⟨xk, xp, xt, (xa, xb, xc)⟩ = false) := by show _ = _; simp [isName1, hk1]
    clear hk1
    go_wp2_with fail
    go_ret2
    exact ⟨grown_bl hb2 _, .inr ⟨HN.out, rfl, HS.out⟩⟩

/-! Of no stream: nil, or one without tokens. -/
/-- It is no stream. -/
def NoStr (W : World) (p : Option Addr) : Prop := p = none ∨ ∃ bs, p = some ⟨bs, 0, none⟩ ∧ W.heap[bs]? = some (.cells #[.slice none 0 0, .int .i64 0] 63 (0, 0))
theorem NoStr.bl {W W' : World} {p : Option Addr} (h : NoStr W p) (hb : Bl W W') : NoStr W' p := by
  rcases h with h | ⟨bs, h, h2⟩
  · exact .inl h
  · exact .inr ⟨bs, h, (hb.block _ (Array.getElem?_eq_some_iff.1 h2).1).trans h2⟩
theorem tnone_yes {W : World} {p : Option Addr} (h : NoStr W p) : Calls Tryz.prog 26 #[.pointer p] W fun e w' => e = .returned (.bool true) ∧ W = w' := by
  rcases h with rfl | ⟨bs, rfl, h⟩
  · go_enter Tryz.func26, Tryz.ntmps26
    go_wp2
    go_ret
    exact ⟨rfl, rfl⟩
  · obtain ⟨c0, c1, f0, f1, hlt⟩ := cells2 h
    go_enter Tryz.func26, Tryz.ntmps26
    go_wp2
    go_ret
    exact ⟨rfl, rfl⟩
theorem tPeek_none {W : World} {p : Option Addr} (h : NoStr W p) : Calls Tryz.prog 21 #[.pointer p] W fun e w' => e = .returned (TV 0 0 [] 0 0 []) ∧ Bl W w' := by
  have H := Lib.hid (h.bl ((Bl.refl W).alloc (.cells #[.int .i64 0, .int .i64 0, .string ⟨#[]⟩, .int .i64 0, .int .i64 0, .string ⟨#[]⟩] 34)))
  clear h
  go_enter Tryz.func21, Tryz.ntmps21
  go_wp2_with (first
    | (go_at_call 26; (with_reducible refine (tnone_yes H.out).mono ?_); rintro e w' ⟨rfl, rfl⟩))
  exact bodyPost_ret (v := TV 0 0 [] 0 0 []) (by simp [results, Tryz.results21, go_sem]) rfl ⟨rfl, (Bl.refl W).alloc _⟩
theorem tAt_none {W : World} {p : Option Addr} (h : NoStr W p) : Calls Tryz.prog 22 #[.pointer p] W fun e w' => e = .returned (.int .i64 0) ∧ W = w' := by
  have H := Lib.hid h
  clear h
  go_enter Tryz.func22, Tryz.ntmps22
  go_wp2_with (first
    | (go_at_call 26; (with_reducible refine (tnone_yes H.out).mono ?_); rintro e w' ⟨rfl, rfl⟩))
  go_ret
  exact ⟨rfl, rfl⟩
theorem tBack_none {W : World} {p : Option Addr} (h : NoStr W p) : Calls Tryz.prog 20 #[.pointer p, .int .i64 0] W fun e w' => e = .returned (.bool false) ∧ W = w' := by
  have H := Lib.hid h
  clear h
  go_enter Tryz.func20, Tryz.ntmps20
  go_wp2_with (first
    | (go_at_call 26; (with_reducible refine (tnone_yes H.out).mono ?_); rintro e w' ⟨rfl, rfl⟩))
  go_ret
  exact ⟨rfl, rfl⟩
set_option maxHeartbeats 1000000 in
theorem tNext_none {W : World} {p : Option Addr} (h : NoStr W p) : Calls Tryz.prog 11 #[.pointer p] W fun e w' => e = .returned (TV 0 0 [] 0 0 []) ∧ Bl W w' := by
  have hb0 : Bl W (W.alloc (.cells #[.int .i64 0, .int .i64 0, .string ⟨#[]⟩, .int .i64 0, .int .i64 0, .string ⟨#[]⟩] 34)) := (Bl.refl W).alloc _
  have hA0 := heap_new W (.cells #[.int .i64 0, .int .i64 0, .string ⟨#[]⟩, .int .i64 0, .int .i64 0, .string ⟨#[]⟩] 34)
  have H := Lib.hid (h.bl hb0)
  clear h
  go_enter Tryz.func11, Tryz.ntmps11
  go_wp2_with fail
  (with_reducible refine (tPeek_none H.out).mono ?_)
  rintro e w1 ⟨rfl, hb1⟩
  have hA1 := (hb1.block _ (by simp)).trans hA0
  have hz1 : W.heap.size < w1.heap.size := (Array.getElem?_eq_some_iff.1 hA1).1
  have H2 := Lib.hid ((H.out.bl hb1).bl ((Bl.refl w1).alloc (.cells #[.int .i64 0, .int .i64 0, .string ⟨#[]⟩, .int .i64 0, .int .i64 0, .string ⟨#[]⟩] 34)))
  have hb2 := hb0.call hb1
  obtain ⟨⟨d0, d1, d2, d3, d4, d5⟩, ⟨k0, k1, k2, k3, k4, k5⟩⟩ := cells6 hA1
  go_wp2_with (first
    | (go_at_call 26; (with_reducible refine (tnone_yes H2.out).mono ?_); rintro e w' ⟨rfl, rfl⟩))
  clear d0 d1 d2 d3 d4 d5 k0 k1 k2 k3 k4 k5
  have hS6 := heap_set6 w1 W.heap.size _ _ _ _ _ _ (.int .i64 0) (.int .i64 0) (.string ⟨#[]⟩) (.int .i64 0) (.int .i64 0) (.string ⟨#[]⟩) 34 hA1
  have hB6 := bl_set6 hb2 (Nat.le_refl W.heap.size) (.int .i64 0) (.int .i64 0) (.string ⟨#[]⟩) (.int .i64 0) (.int .i64 0) (.string ⟨#[]⟩)
  generalize (((((w1.setCell ⟨W.heap.size, 0, none⟩ (.int .i64 0)).setCell ⟨W.heap.size, 1, none⟩ (.int .i64 0)).setCell ⟨W.heap.size, 2, none⟩ (.string ⟨#[]⟩)).setCell ⟨W.heap.size, 3, none⟩ (.int .i64 0)).setCell ⟨W.heap.size, 4, none⟩ (.int .i64 0)).setCell ⟨W.heap.size, 5, none⟩ (.string ⟨#[]⟩) = W6 at *
  have hl6 : W.heap.size < W6.heap.size := (Array.getElem?_eq_some_iff.1 hS6).1
  have hS7 := (heap_old W6 (.cells #[.int .i64 0, .int .i64 0, .string ⟨#[]⟩, .int .i64 0, .int .i64 0, .string ⟨#[]⟩] 34) hl6).trans hS6
  obtain ⟨⟨q0, q1, q2, q3, q4, q5⟩, -⟩ := cells6 hS7
  exact bodyPost_ret (v := TV 0 0 [] 0 0 []) (by simp [results, Tryz.results11, go_sem, q0, q1, q2, q3, q4, q5]) rfl ⟨rfl, hB6.alloc _⟩
theorem tName_none {W : World} {p : Option Addr} (h : NoStr W p) : Calls Tryz.prog 14 #[.pointer p] W fun e w' => e = .returned (.tuple #[S [], .bool false]) ∧ Bl W w' := by
  have H := Lib.hid h
  clear h
  go_enter Tryz.func14, Tryz.ntmps14
  go_wp2_with (first
    | (go_at_call 21; (with_reducible refine (tPeek_none H.out).mono ?_); rintro e w1 ⟨rfl, hb1⟩))
  go_ret2
  exact ⟨rfl, hb1.alloc _⟩

end Go.Proofs.YtdhaddldmooniaaGreatDoor
