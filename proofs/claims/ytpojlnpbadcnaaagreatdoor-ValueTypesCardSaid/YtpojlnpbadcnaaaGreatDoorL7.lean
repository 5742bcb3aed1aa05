/- ValueTypes: the walk. -/
import Derived.Test.YtpojlnpbadcnaaaGreatDoorL4
import Derived.Test.YtpojlnpbadcnaaaGreatDoorVT
namespace Go.Proofs.YtpojlnpbadcnaaaGreatDoor
open Go.RowKit Go.Shelf
set_option maxRecDepth 100000

attribute [local go_sem] Oper.semAt_some

/-- What lies in the law's own variables. -/
def St (bm br bt bn : Nat) (Ds : List Nat) (many t n : Int) (W : World) : Prop :=
  W.cell? ⟨bm, 0, none⟩ = some (.int .i64 many) ∧ W.cell? ⟨br, 0, none⟩ = some (.bool false) ∧ W.frozen? ⟨br, 0, none⟩ = false ∧ W.cell? ⟨bt, 0, none⟩ = some (.int .i64 t) ∧ W.frozen? ⟨bt, 0, none⟩ = false ∧
  W.cell? ⟨bn, 0, none⟩ = some (.int .i64 n) ∧ W.frozen? ⟨bn, 0, none⟩ = false ∧ ∀ D ∈ Ds, W.heap[D]? = some (.deferred (some []))
theorem St.bl {bm br bt bn : Nat} {Ds : List Nat} {many t n : Int} {A B : World} (h : St bm br bt bn Ds many t n A) (hb : Bl A B) : St bm br bt bn Ds many t n B :=
  ⟨hb.cell h.1, hb.cell h.2.1, hb.frozen h.2.1 h.2.2.1, hb.cell h.2.2.2.1, hb.frozen h.2.2.2.1 h.2.2.2.2.1, hb.cell h.2.2.2.2.2.1, hb.frozen h.2.2.2.2.2.1 h.2.2.2.2.2.2.1, fun D hD => by rw [hb.block D (Array.getElem?_eq_some_iff.1 (h.2.2.2.2.2.2.2 D hD)).1]; exact h.2.2.2.2.2.2.2 D hD⟩
theorem St.setN {bm br bt bn : Nat} {Ds : List Nat} {many t n : Int} {A : World} (h : St bm br bt bn Ds many t n A) (m : Int) (h1 : bm ≠ bn) (h2 : br ≠ bn) (h3 : bt ≠ bn) : St bm br bt bn Ds many t m (A.setCell ⟨bn, 0, none⟩ (.int .i64 m)) :=
  ⟨set_apart h.1 h1, set_apart h.2.1 h2, set_apart_frozen h.2.2.1, set_apart h.2.2.2.1 h3, set_apart_frozen h.2.2.2.2.1, set_same h.2.2.2.2.2.1, set_apart_frozen h.2.2.2.2.2.2.1, fun D hD => by
    have hd := h.2.2.2.2.2.2.2 D hD
    have hne : D ≠ bn := by
      rintro rfl
      have := h.2.2.2.2.2.1
      simp [World.cell?, hd] at this
    rw [Below.heap_setCell _ _ _ _ hne]; exact hd⟩
theorem St.own {β : Type} {bm br bt bn : Nat} {Ds : List Nat} {many t : Int} {f : β → Int} {B : Nat} (hD : ∀ D ∈ Ds, D < B) : OwnFrom B (fun (s : β) W => St bm br bt bn Ds many t (f s) W) := fun s A W row h hg hr => by
  have hr' := fun r e => (hr r e).2
  exact ⟨cell_kept h.1 hg hr', cell_kept h.2.1 hg hr', (frozen_kept h.2.1 hg hr').trans h.2.2.1, cell_kept h.2.2.2.1 hg hr', (frozen_kept h.2.2.2.1 hg hr').trans h.2.2.2.2.1, cell_kept h.2.2.2.2.2.1 hg hr', (frozen_kept h.2.2.2.2.2.1 hg hr').trans h.2.2.2.2.2.2.1, fun D hd => by
    have h1 := h.2.2.2.2.2.2.2 D hd
    rw [hg.block D (Array.getElem?_eq_some_iff.1 h1).1 (fun e => by have := (hr D e.symm).1; have := hD D hd; omega)]; exact h1⟩


/-- Within the range: what has come. -/
def It (w : World) (bm br bt bn : Nat) (Ds : List Nat) (many t : Int) (pre : List (Int × List UInt8)) (W : World) : Prop :=
  (St bm br bt bn Ds many t (pre.length : Int) W ∧ Bl w W) ∧ pre = upto typ pre.length ∧ (t = 1 ∨ pre.length = 0 ∨ (pre.length : Int) < many)
def Ixt (w : World) (bm br bt bn : Nat) (Ds : List Nat) (many t : Int) (c : Code) (pre : List (Int × List UInt8)) (W : World) : Prop :=
  (c = .exit 2 ∧ t = 0 ∧ (St bm br bt bn Ds many t (pre.length : Int) W ∧ Bl w W) ∧ pre = upto typ pre.length ∧ many ≤ pre.length ∧ 1 ≤ pre.length ∧ (pre.length = 1 ∨ (pre.length : Int) - 1 < many)) ∨ (c = .ret ∧ pre ≠ upto typ pre.length)
theorem It.own {w : World} {bm br bt bn : Nat} {Ds : List Nat} {many t : Int} {B : Nat} (hD : ∀ D ∈ Ds, D < B) (hw : w.heap.size ≤ B) : OwnFrom B (It w bm br bt bn Ds many t) := fun s A W row h hg hr =>
  ⟨⟨St.own (f := fun s : List (Int × List UInt8) => (s.length : Int)) hD s A W row h.1.1 hg hr, ownFrom_below (Nat.le_refl _) hw s A W row h.1.2 hg hr⟩, h.2⟩
theorem Ixt.own {w : World} {bm br bt bn : Nat} {Ds : List Nat} {many t : Int} {B : Nat} (hD : ∀ D ∈ Ds, D < B) (hw : w.heap.size ≤ B) (c : Code) : OwnFrom B (Ixt w bm br bt bn Ds many t c) := fun s A W row h hg hr => by
  rcases h with ⟨h1, h2, h3, h4⟩ | h
  · exact .inl ⟨h1, h2, ⟨St.own (f := fun s : List (Int × List UInt8) => (s.length : Int)) hD s A W row h3.1 hg hr, ownFrom_below (Nat.le_refl _) hw s A W row h3.2 hg hr⟩, h4⟩
  · exact .inr h
theorem upto_snoc_ok {pre : List (Int × List UInt8)} (h : pre = upto typ pre.length) {x : Int × List UInt8} (hx : x = typ pre.length) : pre ++ [x] = upto typ (pre ++ [x]).length := by
  rw [List.length_append, List.length_singleton, upto_succ, ← h, hx]
theorem upto_snoc_no {pre : List (Int × List UInt8)} {x : Int × List UInt8} (hx : x ≠ typ pre.length) : pre ++ [x] ≠ upto typ (pre ++ [x]).length := by
  intro e
  rw [List.length_append, List.length_singleton, upto_succ] at e
  have := List.append_inj' e rfl
  simp at this
  exact hx this.2
theorem rTypeName_at (k : Nat) (h : k < 4) (w : World) : Calls Tryz.prog 25 #[.int .i64 ((k : Int) + 1)] w fun e w' => e = .returned (S (tname (k + 1))) ∧ Bl w w' := by
  have := rTypeName_any (k + 1) (by omega) (by omega) w
  rw [Int.natCast_add] at this
  exact this
theorem St.end_ {bm br bt bn : Nat} {Ds : List Nat} {many t n : Int} {A : World} (h : St bm br bt bn Ds many t n A) : bm < A.heap.size ∧ br < A.heap.size ∧ bt < A.heap.size ∧ bn < A.heap.size :=
  ⟨World.block_lt_of_cell? _ _ h.1, World.block_lt_of_cell? _ _ h.2.1, World.block_lt_of_cell? _ _ h.2.2.2.1, World.block_lt_of_cell? _ _ h.2.2.2.2.2.1⟩

theorem put_cell {W : World} {p : Addr} {v : Value} {l : Nat} {o : Obj} (h : W.cell? p = some v) (hne : p.block ≠ l) : (W.putObj l o).cell? p = some v := by
  rw [World.cell?_of_block (w := W) (World.putObj_heap_other (by omega))]; exact h
theorem cells_not {W : World} {b D : Nat} {v : Value} {x : Option (List Deferred)} (hc : W.cell? ⟨b, 0, none⟩ = some v) (hD : W.heap[D]? = some (.deferred x)) : b ≠ D := by
  rintro rfl
  simp [World.cell?, hD] at hc
theorem leave2 {tm : Array Value} {w Wf : World} {br D D' : Nat} (h2 : tm[2]? = some (.pointer (some ⟨br, 0, none⟩))) (hc : Wf.cell? ⟨br, 0, none⟩ = some (.bool true)) (hD : Wf.heap[D]? = some (.deferred (some []))) (hD' : Wf.heap[D']? = some (.deferred (some [])))
    (hne : D ≠ D') (hw : w.heap.size ≤ D) (hw' : w.heap.size ≤ D') (hB : Bl w Wf) :
    LeavesInM Fence.wide 6 Tryz.prog Tryz.f7 tm (Yes w) [{ target := .collected D', args := #[] }, { target := .collected D, args := #[] }] .returning Wf := by
  have n1 := cells_not hc hD
  have n2 := cells_not hc hD'
  refine ⟨by simp, .inl ⟨_, _, rfl, run_takeDeferred hD', ?_⟩⟩
  have hD2 : (Wf.putObj D' (.deferred none)).heap[D]? = some (.deferred (some [])) := (World.putObj_heap_other (by omega)).trans hD
  refine ⟨by simp, .inl ⟨_, _, rfl, run_takeDeferred hD2, ?_⟩⟩
  have hc2 := put_cell (o := .deferred none) (put_cell (o := .deferred none) hc n2) n1
  refine ⟨.bool true, ?_, rfl, (hB.trans (belowK_b (w := w) (Nat.le_refl _) _ _ _ _ hw' hD' rfl rfl)).trans (belowK_b (w := w) (Nat.le_refl _) _ _ _ _ hw hD2 rfl rfl)⟩
  simp [results, Tryz.results7, go_sem, h2, hc2]

set_option maxHeartbeats 8000000 in
theorem types_all (many : Int) (hm0 : -9223372036854775808 ≤ many) (hm1 : many ≤ 9223372036854775807) (w : World) (hG : Glob w) : Calls Tryz.prog 7 #[.int .i64 many] w (Yes w) := by
  refine (callsIn_wide (n := 6)).1 ?_
  have HG := Lib.hid hG
  clear hG
  have hS0 : St w.heap.size (w.heap.size + 1) (w.heap.size + 1 + 1) (w.heap.size + 1 + 1 + 1) [] many 0 (([] : List (Int × List UInt8)).length : Int) ((((w.alloc (.cells #[.int .i64 many] 3)).alloc (.cells #[.bool false] 4)).alloc (.cells #[.int .i64 0] 3)).alloc (.cells #[.int .i64 0] 3)) := by
    refine ⟨by simp [go_sem], by simp [go_sem], by simp [go_sem], by simp [go_sem], by simp [go_sem], by simp [go_sem], by simp [go_sem], by simp⟩
  have hB0 : Bl w ((((w.alloc (.cells #[.int .i64 many] 3)).alloc (.cells #[.bool false] 4)).alloc (.cells #[.int .i64 0] 3)).alloc (.cells #[.int .i64 0] 3)) := ((((Bl.refl w).alloc _).alloc _).alloc _).alloc _
  have hz0 : ((((w.alloc (.cells #[.int .i64 many] 3)).alloc (.cells #[.bool false] 4)).alloc (.cells #[.int .i64 0] 3)).alloc (.cells #[.int .i64 0] 3)).heap.size = w.heap.size + 4 := by simp
  have HS0 := Lib.hid hS0
  have HB0 := Lib.hid hB0
  have HZ0 := Lib.hid hz0
  clear hS0 hB0 hz0
  refine callsIn_of_wp_marks Tryz.func7 rfl trivial ?_ rfl
  simp only [Tryz.ntmps7, List.size_toArray, List.length_cons, List.length_nil, Nat.reduceAdd, Nat.reduceSub, Array.replicate_succ, Array.replicate_zero, List.push_toArray, List.append_toArray, List.nil_append, List.cons_append]
  gi_wp2_with fail
  refine ⟨trivial, ?_⟩
  refine (callsIn_wide.2 (Types_any _)).mono ?_
  rintro e w1 ⟨rfl, rfl⟩
  have hnf : ∀ w, (binOp BinOp.eql 52 (.func (.func 53) #[] #[]) .nilFunc).run Tryz.prog w = .ok (.bool false) w := fun _ => by kernel_rfl
  gi_wp2_with fail
  clear hnf
  refine wpIn_loop_rounds 3 ?_
  rw [roundsIn_succ]
  gi_wp2_with fail
  generalize (((w.alloc (.cells #[.int .i64 many] 3)).alloc (.cells #[.bool false] 4)).alloc (.cells #[.int .i64 0] 3)).alloc (.cells #[.int .i64 0] 3) = W0 at *
  have hmn : w.heap.size ≠ (w.heap.size + 1 + 1 + 1) := by omega
  have hrn : (w.heap.size + 1) ≠ (w.heap.size + 1 + 1 + 1) := by omega
  have htn : (w.heap.size + 1 + 1) ≠ (w.heap.size + 1 + 1 + 1) := by omega
  have hw : w.heap.size ≤ W0.heap.size := HB0.out.size
  refine wpIn_rangeFunc_ownG rfl (by omega) (gf := 53) (lb := #[]) rfl trivial (enters_of Tryz.func53 (by kernel_rfl) rfl)
    (types_stops (6 - 1) (by omega) W0) (fun _ _ => trivial) (fun _ _ _ _ _ _ _ _ => trivial) (Below.refl _ _) (fun _ => rfl)
    (It w w.heap.size (w.heap.size + 1) (w.heap.size + 1 + 1) (w.heap.size + 1 + 1 + 1) [] many 0) (Ixt w w.heap.size (w.heap.size + 1) (w.heap.size + 1 + 1) (w.heap.size + 1 + 1 + 1) [] many 0) (It.own (by simp) hw) (fun c => Ixt.own (by simp) hw c) ⟨⟨HS0.out, HB0.out⟩, rfl, .inr (.inl rfl)⟩ (fun x => { tmps := #[.int .i64 many, .pointer (some ⟨w.heap.size, 0, none⟩), .pointer (some ⟨(w.heap.size + 1), 0, none⟩), .func (.func 53) #[] #[], .pointer (some ⟨(w.heap.size + 1 + 1), 0, none⟩), .pointer (some ⟨(w.heap.size + 1 + 1 + 1), 0, none⟩), .int .i64 x.1, S x.2, .func (.func 53) #[] #[], .func (.func 53) #[] #[], .bool false, .int .i64 0, .bool true, undef, undef, .func (.func 53) #[] #[], .int .i64 x.1, S x.2, undef, undef, undef, undef, undef, undef, undef, undef, undef, undef, undef, undef, undef, undef, undef, undef, undef, undef, undef, undef, undef, undef, undef, undef, undef, undef, undef, undef, undef, undef, undef, undef, undef, undef, undef, undef, undef, undef, undef, undef, undef], defers := [] }) ?assign ?body ?done ?stop
  case assign =>
    intro l x W K hK
    obtain ⟨x1, x2⟩ := x
    simp only [encT]
    gi_wp2
    exact hK
  case body =>
    rintro l pre ⟨x1, x2⟩ W ⟨⟨hS, hB⟩, hpre, hcond⟩ hlen
    have HS := Lib.hid hS
    have HB := Lib.hid hB
    have HP := Lib.hid hpre
    have HC := Lib.hid hcond
    obtain ⟨c1, c2, f2, c3, f3, c4, f4, -⟩ := hS
    clear hB hpre hcond
    generalize hk : pre.length = k at *
    have HK := Lib.hid hk
    clear hk
    have hsn : W.setCell ⟨(w.heap.size + 1 + 1 + 1), 0, none⟩ (.int .i64 ((k : Int) + 1)) = W.setCell ⟨(w.heap.size + 1 + 1 + 1), 0, none⟩ (.int .i64 ((k : Int) + 1)) := rfl
    clear hsn
    have hS1 := HS.out.setN ((k : Int) + 1) hmn hrn htn
    have hB1 : Bl w (W.setCell ⟨(w.heap.size + 1 + 1 + 1), 0, none⟩ (.int .i64 ((k : Int) + 1))) := HB.out.set (by simp; omega) _
    by_cases h1 : x1 = (k : Int) + 1
    · subst h1
      have hne : ((k : Int) + 1 != (k : Int) + 1) = false := by simp
      gi_wp2_with fail
      refine ⟨trivial, ?_⟩
      refine (CallsIn.inRound l (callsIn_wide.2 (rTypeName_at k hlen _))).mono ?_
      rintro e W1 ⟨rfl, hb⟩
      have HTN := Lib.hid (rfl : tname (k + 1) = tname (k + 1))
      generalize htn' : tname (k + 1) = tn at *
      have HT := Lib.hid htn'
      clear htn' HTN hne
      have hS2 := hS1.bl hb
      have hB2 := hB1.call hb
      have hkf : KeepsOthers W W1 := (KeepsOthers.setCell _ _ _).trans (KeepsOthers.of_bl hb)
      have HS2 := Lib.hid hS2
      obtain ⟨d1, d2, e2, d3, e3, d4, e4, -⟩ := hS2
      clear hS1 hB1 hb c1 c2 f2 c3 f3 c4 f4
      by_cases h2 : x2 = tn
      · subst h2
        by_cases hmany : many ≤ (k : Int) + 1
        · gi_wp2
          refine ⟨hkf.from _, .inl ⟨rfl, rfl, ⟨by rw [List.length_append, List.length_singleton, HK.out]; exact HS2.out, hB2⟩, upto_snoc_ok (by rw [HK.out]; exact HP.out) (by rw [HK.out]; simp [typ, HT.out]), by rw [List.length_append, List.length_singleton, HK.out]; omega, by simp, ?_⟩⟩
          rw [List.length_append, List.length_singleton, HK.out]
          have := HC.out
          omega
        · have hm' : (k : Int) + 1 < many := by omega
          gi_wp2
          refine ⟨hkf.from _, trivial, ⟨by rw [List.length_append, List.length_singleton, HK.out]; exact HS2.out, hB2⟩, upto_snoc_ok (by rw [HK.out]; exact HP.out) (by rw [HK.out]; simp [typ, HT.out]), .inr (.inr ?_)⟩
          rw [List.length_append, List.length_singleton, HK.out]
          exact hm'
      · have h2' : (x2 != tn) = true := by simpa using h2
        have h2'' : (x2 == tn) = false := by simpa using h2
        gi_wp2
        exact ⟨(hkf.trans (KeepsOthers.setCell _ _ _)).from _, .inr ⟨rfl, upto_snoc_no (by rw [HK.out]; intro e; exact h2 (by rw [← HT.out]; exact (Prod.mk.inj e).2))⟩⟩
    · have h1' : (x1 != (k : Int) + 1) = true := by simpa using h1
      have h1'' : (x1 == (k : Int) + 1) = false := by simpa using h1
      gi_wp2_with fail
      refine ⟨trivial, ?_⟩
      gi_wp2
      exact ⟨((KeepsOthers.setCell _ _ _).trans (KeepsOthers.setCell _ _ _)).from _, .inr ⟨rfl, upto_snoc_no (by rw [HK.out]; intro e; exact h1 (Prod.mk.inj e).1)⟩⟩
  case done =>
    rintro D ys WA hD rfl ⟨⟨hS, hB⟩, -, hc⟩ hK
    rw [upto_length] at hS hc
    obtain ⟨k, hk⟩ : ∃ k : Nat, k = 4 := ⟨_, rfl⟩
    rw [← hk] at hS hc
    have hmin : min 4 (max 1 many) = (k : Int) := by omega
    clear hc
    have hk1 : 1 ≤ k ∧ k ≤ 4 := by omega
    clear hk
    have HK := Lib.hid hK
    have HMIN := Lib.hid hmin
    have hDl : D < WA.heap.size := (Array.getElem?_eq_some_iff.1 hK).1
    have HS1 := Lib.hid hS
    obtain ⟨c1, c2, f2, c3, f3, c4, f4, -⟩ := hS
    have hBW : Bl WA ((WA.alloc (.cells #[.int .i64 1] 3)).alloc (.cells #[.int .i64 0] 3)) := ((Bl.refl WA).alloc _).alloc _
    have hS1 : St w.heap.size (w.heap.size + 1) WA.heap.size (WA.heap.size + 1) [D] many 1 (([] : List (Int × List UInt8)).length : Int) ((WA.alloc (.cells #[.int .i64 1] 3)).alloc (.cells #[.int .i64 0] 3)) := by
      refine ⟨hBW.cell c1, hBW.cell c2, hBW.frozen c2 f2, by simp [go_sem], by simp [go_sem], by simp [go_sem], by simp [go_sem], ?_⟩
      intro D1 hD1
      obtain rfl : D1 = D := by simpa using hD1
      rw [hBW.block _ hDl]; exact HK.out
    have hB1 : Bl w ((WA.alloc (.cells #[.int .i64 1] 3)).alloc (.cells #[.int .i64 0] 3)) := hB.call hBW
    have hb : ((k : Int) != min 4 (max 1 many)) = false := by simp [HMIN.out]
    have HS2 := Lib.hid hS1
    have HB2 := Lib.hid hB1
    have HBW := Lib.hid hBW
    have hwW := hB.size
    have hWl := HS1.out.end_
    clear hS1 hB1 hBW hK hmin
    gi_wp2_with fail
    rw [roundsIn_succ]
    gi_wp2_with fail
    generalize hW1 : ((WA.alloc (.cells #[.int .i64 1] 3)).alloc (.cells #[.int .i64 0] 3)) = W1 at *
    have hz1 : W1.heap.size = WA.heap.size + 2 := by rw [← hW1]; simp
    have HZ1 := Lib.hid hz1
    clear hW1 hz1
    have hmn : w.heap.size ≠ (WA.heap.size + 1) := by omega
    have hrn : (w.heap.size + 1) ≠ (WA.heap.size + 1) := by omega
    have htn : WA.heap.size ≠ (WA.heap.size + 1) := by omega
    have hw : w.heap.size ≤ W1.heap.size := HB2.out.size
    have hdl : ∀ D1 ∈ [D], D1 < W1.heap.size := by intro D1 h1; obtain rfl : D1 = D := by simpa using h1
                                                   have := HZ1.out; omega
    clear c1 c2 f2 c3 f3 c4 f4 hb
    refine wpIn_rangeFunc_ownG rfl (by omega) (gf := 53) (lb := #[]) rfl trivial (enters_of Tryz.func53 (by kernel_rfl) rfl)
      (types_stops (6 - 1) (by omega) W1) (fun _ _ => trivial) (fun _ _ _ _ _ _ _ _ => trivial) (Below.refl _ _) (fun _ => rfl)
      (It w w.heap.size (w.heap.size + 1) WA.heap.size (WA.heap.size + 1) [D] many 1) (Ixt w w.heap.size (w.heap.size + 1) WA.heap.size (WA.heap.size + 1) [D] many 1) (It.own hdl hw) (fun c => Ixt.own hdl hw c) ⟨⟨HS2.out, HB2.out⟩, rfl, .inl rfl⟩ (fun x => { tmps := #[.int .i64 many, .pointer (some ⟨w.heap.size, 0, none⟩), .pointer (some ⟨(w.heap.size + 1), 0, none⟩), .func (.func 53) #[] #[], .pointer (some ⟨WA.heap.size, 0, none⟩), .pointer (some ⟨(WA.heap.size + 1), 0, none⟩), .int .i64 x.1, S x.2, .func (.func 53) #[] #[], .func (.func 53) #[] #[], .bool false, .int .i64 1, .bool true, .int .i64 0, .int .i64 1, .func (.func 53) #[] #[], .int .i64 x.1, S x.2, undef, undef, undef, undef, undef, undef, undef, undef, undef, undef, undef, undef, undef, undef, undef, undef, undef, undef, undef, undef, undef, undef, .int .i64 0, .bool true, .bool true, .int .i64 k, .int .i64 many, .int .i64 (max 1 many), .int .i64 (min 4 (max 1 many)), .bool false, .bool false, .bool false, .int .i64 0, .bool false, .bool false, undef, undef, .bool false, .bool false, .int .i64 0, undef], defers := [] }) ?assign1 ?body1 ?done1 ?stop1
    case assign1 =>
      intro l x W K hK
      obtain ⟨x1, x2⟩ := x
      simp only [encT]
      gi_wp2
      exact hK
    case body1 =>
      rintro l pre ⟨x1, x2⟩ W ⟨⟨hS, hB⟩, hpre, hcond⟩ hlen
      have HS := Lib.hid hS
      have HB := Lib.hid hB
      have HP := Lib.hid hpre
      have HC := Lib.hid hcond
      obtain ⟨c1, c2, f2, c3, f3, c4, f4, -⟩ := hS
      clear hB hpre hcond
      generalize hk : pre.length = k at *
      have HK := Lib.hid hk
      clear hk
      have hsn : W.setCell ⟨(WA.heap.size + 1), 0, none⟩ (.int .i64 ((k : Int) + 1)) = W.setCell ⟨(WA.heap.size + 1), 0, none⟩ (.int .i64 ((k : Int) + 1)) := rfl
      clear hsn
      have hS1 := HS.out.setN ((k : Int) + 1) hmn hrn htn
      have hB1 : Bl w (W.setCell ⟨(WA.heap.size + 1), 0, none⟩ (.int .i64 ((k : Int) + 1))) := HB.out.set (by simp; omega) _
      by_cases h1 : x1 = (k : Int) + 1
      · subst h1
        have hne : ((k : Int) + 1 != (k : Int) + 1) = false := by simp
        gi_wp2_with fail
        refine ⟨trivial, ?_⟩
        refine (CallsIn.inRound l (callsIn_wide.2 (rTypeName_at k hlen _))).mono ?_
        rintro e W1 ⟨rfl, hb⟩
        have HTN := Lib.hid (rfl : tname (k + 1) = tname (k + 1))
        generalize htn' : tname (k + 1) = tn at *
        have HT := Lib.hid htn'
        clear htn' HTN hne
        have hS2 := hS1.bl hb
        have hB2 := hB1.call hb
        have hkf : KeepsOthers W W1 := (KeepsOthers.setCell _ _ _).trans (KeepsOthers.of_bl hb)
        have HS2 := Lib.hid hS2
        obtain ⟨d1, d2, e2, d3, e3, d4, e4, -⟩ := hS2
        clear hS1 hB1 hb c1 c2 f2 c3 f3 c4 f4
        by_cases h2 : x2 = tn
        · subst h2
          gi_wp2
          exact ⟨hkf.from _, trivial, ⟨by rw [List.length_append, List.length_singleton, HK.out]; exact HS2.out, hB2⟩, upto_snoc_ok (by rw [HK.out]; exact HP.out) (by rw [HK.out]; simp [typ, HT.out]), .inl rfl⟩
        · have h2' : (x2 != tn) = true := by simpa using h2
          have h2'' : (x2 == tn) = false := by simpa using h2
          gi_wp2
          exact ⟨(hkf.trans (KeepsOthers.setCell _ _ _)).from _, .inr ⟨rfl, upto_snoc_no (by rw [HK.out]; intro e; exact h2 (by rw [← HT.out]; exact (Prod.mk.inj e).2))⟩⟩
      · have h1' : (x1 != (k : Int) + 1) = true := by simpa using h1
        have h1'' : (x1 == (k : Int) + 1) = false := by simpa using h1
        gi_wp2_with fail
        refine ⟨trivial, ?_⟩
        gi_wp2
        exact ⟨((KeepsOthers.setCell _ _ _).trans (KeepsOthers.setCell _ _ _)).from _, .inr ⟨rfl, upto_snoc_no (by rw [HK.out]; intro e; exact h1 (Prod.mk.inj e).1)⟩⟩
    case done1 =>
      rintro D' ys W' hD' rfl ⟨⟨hS, hB'⟩, -, -⟩ hK'
      rw [upto_length] at hS
      have HK' := Lib.hid hK'
      have HS3 := Lib.hid hS
      obtain ⟨c1, c2, f2, c3, f3, c4, f4, hDs⟩ := hS
      have HD := Lib.hid (hDs D (by simp))
      have hDl' : D' < W'.heap.size := (Array.getElem?_eq_some_iff.1 hK').1
      have hDl2 : D < W'.heap.size := (Array.getElem?_eq_some_iff.1 HD.out).1
      clear hK' hDs
      have hBx : Bl W' (W'.alloc (.cells #[.int .i64 2] 3)) := (Bl.refl W').alloc _
      have hGx := HG.out.bl (hB'.call hBx)
      gi_wp2_with fail
      rw [roundsIn_succ]
      gi_wp2_with fail
      refine ⟨trivial, ?_⟩
      refine (callsIn_wide.2 (works_any _ hGx)).mono ?_
      rintro e W3 ⟨rfl, hb3⟩
      have hB3 := hBx.call hb3
      have e2 := hB3.cell c2
      have g2 := hB3.frozen c2 f2
      clear c1 c2 f2 c3 f3 c4 f4
      gi_wp2
      refine leave2 (D := D) (D' := D') rfl (set_same e2) ?_ ?_ ?_ ?_ ?_ ((hB'.call hB3).set (by simp) _)
      · rw [Below.heap_setCell _ _ _ _ (cells_not e2 ((hB3.block _ hDl2).trans HD.out)).symm, hB3.block _ hDl2]; exact HD.out
      · rw [Below.heap_setCell _ _ _ _ (cells_not e2 ((hB3.block _ hDl').trans HK'.out)).symm, hB3.block _ hDl']; exact HK'.out
      · have := HZ1.out; omega
      · have := HB0.out.size; omega
      · have := HB2.out.size; omega
    case stop1 =>
      rintro D' c pre W' hD' ⟨j, hj4, rfl⟩ hx hK'
      rcases hx with ⟨rfl, h01, -⟩ | ⟨rfl, hno⟩
      · exact absurd h01 (by decide)
      · exact absurd (by rw [upto_length]) hno
  case stop =>
    rintro D c pre WA hD ⟨k, hk4, rfl⟩ hx hK
    rcases hx with ⟨rfl, -, ⟨hS, hB⟩, -, hle, hl1, hor⟩ | ⟨rfl, hno⟩
    · rw [upto_length] at hS hle hl1 hor
      have hmin : min 4 (max 1 many) = (k : Int) := by omega
      have hk1 : 1 ≤ k ∧ k ≤ 4 := by omega
      clear hle hl1 hor hk4
      have HK := Lib.hid hK
      have HMIN := Lib.hid hmin
      have hDl : D < WA.heap.size := (Array.getElem?_eq_some_iff.1 hK).1
      have HS1 := Lib.hid hS
      obtain ⟨c1, c2, f2, c3, f3, c4, f4, -⟩ := hS
      have hBW : Bl WA ((WA.alloc (.cells #[.int .i64 1] 3)).alloc (.cells #[.int .i64 0] 3)) := ((Bl.refl WA).alloc _).alloc _
      have hS1 : St w.heap.size (w.heap.size + 1) WA.heap.size (WA.heap.size + 1) [D] many 1 (([] : List (Int × List UInt8)).length : Int) ((WA.alloc (.cells #[.int .i64 1] 3)).alloc (.cells #[.int .i64 0] 3)) := by
        refine ⟨hBW.cell c1, hBW.cell c2, hBW.frozen c2 f2, by simp [go_sem], by simp [go_sem], by simp [go_sem], by simp [go_sem], ?_⟩
        intro D1 hD1
        obtain rfl : D1 = D := by simpa using hD1
        rw [hBW.block _ hDl]; exact HK.out
      have hB1 : Bl w ((WA.alloc (.cells #[.int .i64 1] 3)).alloc (.cells #[.int .i64 0] 3)) := hB.call hBW
      have hb : ((k : Int) != min 4 (max 1 many)) = false := by simp [HMIN.out]
      have HS2 := Lib.hid hS1
      have HB2 := Lib.hid hB1
      have HBW := Lib.hid hBW
      have hwW := hB.size
      have hWl := HS1.out.end_
      clear hS1 hB1 hBW hK hmin
      gi_wp2_with fail
      rw [roundsIn_succ]
      gi_wp2_with fail
      generalize hW1 : ((WA.alloc (.cells #[.int .i64 1] 3)).alloc (.cells #[.int .i64 0] 3)) = W1 at *
      have hz1 : W1.heap.size = WA.heap.size + 2 := by rw [← hW1]; simp
      have HZ1 := Lib.hid hz1
      clear hW1 hz1
      have hmn : w.heap.size ≠ (WA.heap.size + 1) := by omega
      have hrn : (w.heap.size + 1) ≠ (WA.heap.size + 1) := by omega
      have htn : WA.heap.size ≠ (WA.heap.size + 1) := by omega
      have hw : w.heap.size ≤ W1.heap.size := HB2.out.size
      have hdl : ∀ D1 ∈ [D], D1 < W1.heap.size := by intro D1 h1; obtain rfl : D1 = D := by simpa using h1
                                                     have := HZ1.out; omega
      clear c1 c2 f2 c3 f3 c4 f4 hb
      refine wpIn_rangeFunc_ownG rfl (by omega) (gf := 53) (lb := #[]) rfl trivial (enters_of Tryz.func53 (by kernel_rfl) rfl)
        (types_stops (6 - 1) (by omega) W1) (fun _ _ => trivial) (fun _ _ _ _ _ _ _ _ => trivial) (Below.refl _ _) (fun _ => rfl)
        (It w w.heap.size (w.heap.size + 1) WA.heap.size (WA.heap.size + 1) [D] many 1) (Ixt w w.heap.size (w.heap.size + 1) WA.heap.size (WA.heap.size + 1) [D] many 1) (It.own hdl hw) (fun c => Ixt.own hdl hw c) ⟨⟨HS2.out, HB2.out⟩, rfl, .inl rfl⟩ (fun x => { tmps := #[.int .i64 many, .pointer (some ⟨w.heap.size, 0, none⟩), .pointer (some ⟨(w.heap.size + 1), 0, none⟩), .func (.func 53) #[] #[], .pointer (some ⟨WA.heap.size, 0, none⟩), .pointer (some ⟨(WA.heap.size + 1), 0, none⟩), .int .i64 x.1, S x.2, .func (.func 53) #[] #[], .func (.func 53) #[] #[], .bool false, .int .i64 1, .bool true, .int .i64 0, .int .i64 1, .func (.func 53) #[] #[], .int .i64 x.1, S x.2, undef, undef, undef, undef, undef, undef, undef, undef, undef, undef, undef, undef, undef, undef, undef, undef, undef, undef, undef, undef, undef, undef, .int .i64 0, .bool true, .bool true, .int .i64 k, .int .i64 many, .int .i64 (max 1 many), .int .i64 (min 4 (max 1 many)), .bool false, .bool false, .bool false, .int .i64 0, .bool false, .bool false, undef, undef, .bool false, .bool false, .int .i64 0, undef], defers := [] }) ?assign2 ?body2 ?done2 ?stop2
      case assign2 =>
        intro l x W K hK
        obtain ⟨x1, x2⟩ := x
        simp only [encT]
        gi_wp2
        exact hK
      case body2 =>
        rintro l pre ⟨x1, x2⟩ W ⟨⟨hS, hB⟩, hpre, hcond⟩ hlen
        have HS := Lib.hid hS
        have HB := Lib.hid hB
        have HP := Lib.hid hpre
        have HC := Lib.hid hcond
        obtain ⟨c1, c2, f2, c3, f3, c4, f4, -⟩ := hS
        clear hB hpre hcond
        generalize hk : pre.length = k at *
        have HK := Lib.hid hk
        clear hk
        have hsn : W.setCell ⟨(WA.heap.size + 1), 0, none⟩ (.int .i64 ((k : Int) + 1)) = W.setCell ⟨(WA.heap.size + 1), 0, none⟩ (.int .i64 ((k : Int) + 1)) := rfl
        clear hsn
        have hS1 := HS.out.setN ((k : Int) + 1) hmn hrn htn
        have hB1 : Bl w (W.setCell ⟨(WA.heap.size + 1), 0, none⟩ (.int .i64 ((k : Int) + 1))) := HB.out.set (by simp; omega) _
        by_cases h1 : x1 = (k : Int) + 1
        · subst h1
          have hne : ((k : Int) + 1 != (k : Int) + 1) = false := by simp
          gi_wp2_with fail
          refine ⟨trivial, ?_⟩
          refine (CallsIn.inRound l (callsIn_wide.2 (rTypeName_at k hlen _))).mono ?_
          rintro e W1 ⟨rfl, hb⟩
          have HTN := Lib.hid (rfl : tname (k + 1) = tname (k + 1))
          generalize htn' : tname (k + 1) = tn at *
          have HT := Lib.hid htn'
          clear htn' HTN hne
          have hS2 := hS1.bl hb
          have hB2 := hB1.call hb
          have hkf : KeepsOthers W W1 := (KeepsOthers.setCell _ _ _).trans (KeepsOthers.of_bl hb)
          have HS2 := Lib.hid hS2
          obtain ⟨d1, d2, e2, d3, e3, d4, e4, -⟩ := hS2
          clear hS1 hB1 hb c1 c2 f2 c3 f3 c4 f4
          by_cases h2 : x2 = tn
          · subst h2
            gi_wp2
            exact ⟨hkf.from _, trivial, ⟨by rw [List.length_append, List.length_singleton, HK.out]; exact HS2.out, hB2⟩, upto_snoc_ok (by rw [HK.out]; exact HP.out) (by rw [HK.out]; simp [typ, HT.out]), .inl rfl⟩
          · have h2' : (x2 != tn) = true := by simpa using h2
            have h2'' : (x2 == tn) = false := by simpa using h2
            gi_wp2
            exact ⟨(hkf.trans (KeepsOthers.setCell _ _ _)).from _, .inr ⟨rfl, upto_snoc_no (by rw [HK.out]; intro e; exact h2 (by rw [← HT.out]; exact (Prod.mk.inj e).2))⟩⟩
        · have h1' : (x1 != (k : Int) + 1) = true := by simpa using h1
          have h1'' : (x1 == (k : Int) + 1) = false := by simpa using h1
          gi_wp2_with fail
          refine ⟨trivial, ?_⟩
          gi_wp2
          exact ⟨((KeepsOthers.setCell _ _ _).trans (KeepsOthers.setCell _ _ _)).from _, .inr ⟨rfl, upto_snoc_no (by rw [HK.out]; intro e; exact h1 (Prod.mk.inj e).1)⟩⟩
      case done2 =>
        rintro D' ys W' hD' rfl ⟨⟨hS, hB'⟩, -, -⟩ hK'
        rw [upto_length] at hS
        have HK' := Lib.hid hK'
        have HS3 := Lib.hid hS
        obtain ⟨c1, c2, f2, c3, f3, c4, f4, hDs⟩ := hS
        have HD := Lib.hid (hDs D (by simp))
        have hDl' : D' < W'.heap.size := (Array.getElem?_eq_some_iff.1 hK').1
        have hDl2 : D < W'.heap.size := (Array.getElem?_eq_some_iff.1 HD.out).1
        clear hK' hDs
        have hBx : Bl W' (W'.alloc (.cells #[.int .i64 2] 3)) := (Bl.refl W').alloc _
        have hGx := HG.out.bl (hB'.call hBx)
        gi_wp2_with fail
        rw [roundsIn_succ]
        gi_wp2_with fail
        refine ⟨trivial, ?_⟩
        refine (callsIn_wide.2 (works_any _ hGx)).mono ?_
        rintro e W3 ⟨rfl, hb3⟩
        have hB3 := hBx.call hb3
        have e2 := hB3.cell c2
        have g2 := hB3.frozen c2 f2
        clear c1 c2 f2 c3 f3 c4 f4
        gi_wp2
        refine leave2 (D := D) (D' := D') rfl (set_same e2) ?_ ?_ ?_ ?_ ?_ ((hB'.call hB3).set (by simp) _)
        · rw [Below.heap_setCell _ _ _ _ (cells_not e2 ((hB3.block _ hDl2).trans HD.out)).symm, hB3.block _ hDl2]; exact HD.out
        · rw [Below.heap_setCell _ _ _ _ (cells_not e2 ((hB3.block _ hDl').trans HK'.out)).symm, hB3.block _ hDl']; exact HK'.out
        · have := HZ1.out; omega
        · have := HB0.out.size; omega
        · have := HB2.out.size; omega
      case stop2 =>
        rintro D' c pre W' hD' ⟨j, hj4, rfl⟩ hx hK'
        rcases hx with ⟨rfl, h01, -⟩ | ⟨rfl, hno⟩
        · exact absurd h01 (by decide)
        · exact absurd (by rw [upto_length]) hno
    · exact absurd (by rw [upto_length]) hno

end Go.Proofs.YtpojlnpbadcnaaaGreatDoor
