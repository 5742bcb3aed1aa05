/- The laws' works(): the chapter's rows. -/
import Derived.Test.YtpojlnpbadcnaaaGreatDoorVP
import Derived.Test.YtpojlnpbadcnaaaGreatDoorV3
import Derived.Test.YtpojlnpbadcnaaaGreatDoorV8
namespace Go.Proofs.YtpojlnpbadcnaaaGreatDoor
open Go.RowKit
set_option maxRecDepth 100000

theorem pvNeg : parseV [45, 48] = (0, 0, [], 110) := by
  have h1 : Lib.parseIntB 64 [45, 48] = .ok 0 := by decide
  have h2 : Lib.itoa 0 = [48] := by simp [Lib.itoa, Lib.decDigits_one]
  have h3 : readNum [45, 48] = none := by simp [readNum, h1, h2]
  have h4 : isName [45, 48] = none := by decide
  have h5 : readRest [45, 48] = none := by decide
  simp [parseV, readV, h3, h4, h5]
theorem pvText : parseV [39, 97, 39, 39, 98, 39] = (3, 0, [97, 39, 98], 0) := by decide
theorem pvBlob : parseV [120, 39, 48, 103, 39] = (0, 0, [], 110) := by decide
theorem litA : lit 3 0 [105, 116, 39, 115] = [39, 105, 116, 39, 39, 115, 39] := by decide
theorem litB : lit 4 0 [0, 255] = [120, 39, 48, 48, 102, 102, 39] := by decide
theorem cmpA : cmpV 0 0 [] (ofK 0) (ofN 0) [] = -1 := by decide
theorem cmpB : cmpV 2 2 [] 3 0 [49] = -1 := by decide
theorem andA : andL [1, 2] = 2 := by decide
theorem orA : orL [0, 2] = 2 := by decide
theorem andN : andL [] = 1 := by decide

theorem LitA_ok (w : World) (hG : Glob w) : Calls Tryz.prog 10 #[V 3 0 [105, 116, 39, 115]] w fun e w' => e = .returned (.tuple #[S [39, 105, 116, 39, 39, 115, 39], .int .i64 0]) ∧ Bl w w' := by
  have := Literal_ok 3 0 [105, 116, 39, 115] (by decide) (by omega) (by omega) w hG
  rwa [litA] at this
theorem LitB_ok (w : World) (hG : Glob w) : Calls Tryz.prog 10 #[V 4 0 [0, 255]] w fun e w' => e = .returned (.tuple #[S [120, 39, 48, 48, 102, 102, 39], .int .i64 0]) ∧ Bl w w' := by
  have := Literal_ok 4 0 [0, 255] (by decide) (by omega) (by omega) w hG
  rwa [litB] at this
theorem ParA (w : World) (hG : Glob w) : Calls Tryz.prog 13 #[S [45, 48]] w fun e w' => e = .returned (.tuple #[V 0 0 [], .int .i64 110]) ∧ Bl w w' := by
  have := Parse_any [45, 48] (by simp) w hG
  rwa [pvNeg] at this
theorem ParB (w : World) (hG : Glob w) : Calls Tryz.prog 13 #[S [39, 97, 39, 39, 98, 39]] w fun e w' => e = .returned (.tuple #[V 3 0 [97, 39, 98], .int .i64 0]) ∧ Bl w w' := by
  have := Parse_any [39, 97, 39, 39, 98, 39] (by simp) w hG
  rwa [pvText] at this
theorem ParC (w : World) (hG : Glob w) : Calls Tryz.prog 13 #[S [120, 39, 48, 103, 39]] w fun e w' => e = .returned (.tuple #[V 0 0 [], .int .i64 110]) ∧ Bl w w' := by
  have := Parse_any [120, 39, 48, 103, 39] (by simp) w hG
  rwa [pvBlob] at this

theorem OfF (w : World) : Calls Tryz.prog 31 #[.int .i64 0] w fun e w' => e = .returned (V 1 0 []) ∧ Bl w w' := Of_any 0 (by omega) (by omega) w
theorem OrdA (w : World) : Calls Tryz.prog 15 #[V 0 0 [], V 1 0 []] w fun e w' => e = .returned (.int .i64 (-1)) ∧ Bl w w' := Order_any 0 0 [] 1 0 [] w
theorem OrdB (w : World) : Calls Tryz.prog 15 #[V 2 2 [], V 3 0 [49]] w fun e w' => e = .returned (.int .i64 (-1)) ∧ Bl w w' := Order_any 2 2 [] 3 0 [49] w
theorem ints_two (W : World) (x y : Int) : Ints (W.alloc (.cells #[.int .i64 x, .int .i64 y] 39)).heap.size (W.alloc (.cells #[.int .i64 x, .int .i64 y] 39)) (.slice (some ⟨W.heap.size, 0, none⟩) 2 2) [x, y] := by
  refine .inr ⟨W.heap.size, 0, 2, rfl, by simp, ?_⟩
  intro j hj
  have hN : (W.alloc (.cells #[.int .i64 x, .int .i64 y] 39)).heap[W.heap.size]? = _ := heap_new _ _
  rw [Lib.cell_of_heap hN]
  match j, hj with
  | 0, _ => rfl
  | 1, _ => rfl
theorem ints_none (W : World) : Ints W.heap.size W (.slice none 0 0) [] := .inl ⟨rfl, rfl⟩
theorem AndA (W : World) : Calls Tryz.prog 17 #[.slice (some ⟨W.heap.size, 0, none⟩) 2 2] (W.alloc (.cells #[.int .i64 1, .int .i64 2] 39)) fun e w' => e = .returned (.int .i64 2) ∧ Bl (W.alloc (.cells #[.int .i64 1, .int .i64 2] 39)) w' := And_any _ _ _ [1, 2] (by simp) _ (ints_two W 1 2)
theorem OrA (W : World) : Calls Tryz.prog 18 #[.slice (some ⟨W.heap.size, 0, none⟩) 2 2] (W.alloc (.cells #[.int .i64 0, .int .i64 2] 39)) fun e w' => e = .returned (.int .i64 2) ∧ Bl (W.alloc (.cells #[.int .i64 0, .int .i64 2] 39)) w' := Or_any _ _ _ [0, 2] (by simp) _ (ints_two W 0 2)
theorem AndN (W : World) : Calls Tryz.prog 17 #[.slice none 0 0] W fun e w' => e = .returned (.int .i64 1) ∧ Bl W w' := And_any _ _ _ [] (by simp) _ (ints_none W)

/-- What is kept of the world through the rows. -/
theorem keep7 {w A B : World} {p0 p1 p2 p3 p4 p5 : Addr} {v0 v1 v2 v3 v4 v5 : Value} (h : A.cell? p0 = some v0 ∧ A.cell? p1 = some v1 ∧ A.cell? p2 = some v2 ∧ A.cell? p3 = some v3 ∧ A.cell? p4 = some v4 ∧ A.cell? p5 = some v5 ∧ Bl w A) (hb : Bl A B) :
    B.cell? p0 = some v0 ∧ B.cell? p1 = some v1 ∧ B.cell? p2 = some v2 ∧ B.cell? p3 = some v3 ∧ B.cell? p4 = some v4 ∧ B.cell? p5 = some v5 ∧ Bl w B :=
  ⟨hb.cell h.1, hb.cell h.2.1, hb.cell h.2.2.1, hb.cell h.2.2.2.1, hb.cell h.2.2.2.2.1, hb.cell h.2.2.2.2.2.1, h.2.2.2.2.2.2.call hb⟩

theorem seventh {w B : World} {p0 p1 p2 p3 p4 p5 : Addr} {v0 v1 v2 v3 v4 v5 : Value} (h : B.cell? p0 = some v0 ∧ B.cell? p1 = some v1 ∧ B.cell? p2 = some v2 ∧ B.cell? p3 = some v3 ∧ B.cell? p4 = some v4 ∧ B.cell? p5 = some v5 ∧ Bl w B) : Bl w B := h.2.2.2.2.2.2

set_option maxHeartbeats 4000000 in
theorem works_any (w : World) (hG : Glob w) : Calls Tryz.prog 9 #[] w fun e w' => e = .returned (.bool true) ∧ Bl w w' := by
  go_enter Tryz.func9, Tryz.ntmps9
  go_wp2_with fail
  (with_reducible refine (text_any [105, 116, 39, 115] _).mono ?_)
  rintro e w1 ⟨rfl, hb1⟩
  have hB1 : Bl w w1 := ((Bl.refl w).alloc _).call hb1
  have k1 : w1.heap[w.heap.size]? = some (.cells #[.int .i64 2, .int .i64 2, .string ⟨#[]⟩] 24 (0, 0)) := by rw [hb1.block _ (by simp), heap_new]
  clear hb1
  go_wp2_with fail
  (with_reducible refine (LitA_ok w1 (hG.bl hB1)).mono ?_)
  rintro e w2 ⟨rfl, hb⟩
  have hB2 := hB1.call hb
  have k2 := (hb.block _ (Array.getElem?_eq_some_iff.1 k1).1).trans k1
  clear hb hB1 k1
  go_wp2_with fail
  (with_reducible refine (LitB_ok w2 (hG.bl hB2)).mono ?_)
  rintro e w3 ⟨rfl, hb⟩
  have hB3 := hB2.call hb
  have k3 := (hb.block _ (Array.getElem?_eq_some_iff.1 k2).1).trans k2
  clear hb hB2 k2
  go_wp2_with fail
  (with_reducible refine (ParA w3 (hG.bl hB3)).mono ?_)
  rintro e w4 ⟨rfl, hb⟩
  have hB4 := hB3.call hb
  have k4 := (hb.block _ (Array.getElem?_eq_some_iff.1 k3).1).trans k3
  clear hb hB3 k3
  go_wp2_with fail
  (with_reducible refine (ParB _ (hG.bl (hB4.alloc _))).mono ?_)
  rintro e w5 ⟨rfl, hb⟩
  have hB5 := (hB4.alloc _).call hb
  have k5 := (hb.block _ (by have := (Array.getElem?_eq_some_iff.1 k4).1; simp; omega)).trans ((heap_old _ _ (Array.getElem?_eq_some_iff.1 k4).1).trans k4)
  clear hb hB4 k4
  go_wp2_with fail
  (with_reducible refine (ParC _ (hG.bl (hB5.alloc _))).mono ?_)
  rintro e w6 ⟨rfl, hb⟩
  have hB6 := (hB5.alloc _).call hb
  have k6 := (hb.block _ (by have := (Array.getElem?_eq_some_iff.1 k5).1; simp; omega)).trans ((heap_old _ _ (Array.getElem?_eq_some_iff.1 k5).1).trans k5)
  have m6 := (hb.block w5.heap.size (by simp)).trans (heap_new _ _)
  clear hb hB5 k5
  go_wp2_with fail
  have hB7 := hB6.alloc (.cells #[.int .i64 0, .int .i64 0, .string ⟨#[]⟩] 24)
  have k7 := (heap_old w6 (.cells #[.int .i64 0, .int .i64 0, .string ⟨#[]⟩] 24) (Array.getElem?_eq_some_iff.1 k6).1).trans k6
  have m7 := (heap_old w6 (.cells #[.int .i64 0, .int .i64 0, .string ⟨#[]⟩] 24) (Array.getElem?_eq_some_iff.1 m6).1).trans m6
  clear hB6 k6 m6
  generalize w6.alloc (.cells #[.int .i64 0, .int .i64 0, .string ⟨#[]⟩] 24) = W at *
  have a0 : W.cell? ⟨w.heap.size, 0, none⟩ = some (.int .i64 2) := by rw [Lib.cell_of_heap k7]; rfl
  have a1 : W.cell? ⟨w.heap.size, 1, none⟩ = some (.int .i64 2) := by rw [Lib.cell_of_heap k7]; rfl
  have a2 : W.cell? ⟨w.heap.size, 2, none⟩ = some (.string ⟨#[]⟩) := by rw [Lib.cell_of_heap k7]; rfl
  have e0 : W.cell? ⟨w5.heap.size, 0, none⟩ = some (.int .i64 3) := by rw [Lib.cell_of_heap m7]; rfl
  have e1 : W.cell? ⟨w5.heap.size, 1, none⟩ = some (.int .i64 0) := by rw [Lib.cell_of_heap m7]; rfl
  have e2 : W.cell? ⟨w5.heap.size, 2, none⟩ = some (.string ⟨#[97, 39, 98]⟩) := by rw [Lib.cell_of_heap m7]; rfl
  have h0 := keep7 ⟨a0, a1, a2, e0, e1, e2, hB7⟩ ((Bl.refl W).drew)
  have HS := Lib.hid h0
  clear h0 a0 a1 a2 e0 e1 e2 hB7 k7 m7 hG
  have x0 : IntKind.i64.wrap 0 = 0 := by decide
  go_region_held3 (fun w' => w'.cell? ⟨w.heap.size, 0, none⟩ = some (.int .i64 2) ∧ w'.cell? ⟨w.heap.size, 1, none⟩ = some (.int .i64 2) ∧ w'.cell? ⟨w.heap.size, 2, none⟩ = some (.string ⟨#[]⟩) ∧ w'.cell? ⟨w5.heap.size, 0, none⟩ = some (.int .i64 3) ∧ w'.cell? ⟨w5.heap.size, 1, none⟩ = some (.int .i64 0) ∧ w'.cell? ⟨w5.heap.size, 2, none⟩ = some (.string ⟨#[97, 39, 98]⟩) ∧ Bl w w')
    (first | exact HS.out | assumption | exact keep7 (by assumption) hb | exact keep7 (by assumption) ((Bl.refl _).alloc _))
    (first
      | (go_at_call 31; (with_reducible refine (OfF _).mono ?_); rintro e w' ⟨rfl, hb⟩)
      | (go_at_call 15; (with_reducible refine (OrdA _).mono ?_); rintro e w' ⟨rfl, hb⟩)
      | (go_at_call 15; (with_reducible refine (OrdB _).mono ?_); rintro e w' ⟨rfl, hb⟩)
      | (go_at_call 33; (with_reducible refine (text_any [49] _).mono ?_); rintro e w' ⟨rfl, hb⟩)
      | (go_at_call 33; (with_reducible refine (text_any [97, 39, 98] _).mono ?_); rintro e w' ⟨rfl, hb⟩)
      | (go_at_call 17; (with_reducible refine (AndA _).mono ?_); rintro e w' ⟨rfl, hb⟩)
      | (go_at_call 17; (with_reducible refine (AndN _).mono ?_); rintro e w' ⟨rfl, hb⟩)
      | (go_at_call 18; (with_reducible refine (OrA _).mono ?_); rintro e w' ⟨rfl, hb⟩)
      | (go_at_call 12; (with_reducible refine (num_any _ (by omega) (by omega) _).mono ?_); rintro e w' ⟨rfl, rfl⟩))
  have hlast := seventh (w := w) (B := w') (by assumption)
  go_wp2
  go_ret
  exact ⟨rfl, hlast⟩

end Go.Proofs.YtpojlnpbadcnaaaGreatDoor
