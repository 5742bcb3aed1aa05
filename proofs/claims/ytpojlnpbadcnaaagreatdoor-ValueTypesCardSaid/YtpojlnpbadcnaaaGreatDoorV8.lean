/- value.folded, And, Or. -/
import Derived.Test.YtpojlnpbadcnaaaGreatDoorV7
namespace Go.Proofs.YtpojlnpbadcnaaaGreatDoor
open Go.RowKit Go.Shelf

attribute [local go_sem] Oper.semAt_some

set_option maxRecDepth 100000 in
set_option maxHeartbeats 2000000 in
theorem folded_any (t0 : Int) (g : FuncId) (f : Int → Int → Int) (a : Option Addr) (len cap : Nat) (zs : List Int) (hreach : zs.length * 8 ≤ 140737488351232) (w : World)
    (hg : ∀ (args : Array Value) (w : World), (callFunc g args).run Tryz.prog w = .ok (.enter g args) w)
    (hf : ∀ (x y : Int) (W : World), Calls Tryz.prog g #[.int .i64 x, .int .i64 y] W fun e w' => e = .returned (.int .i64 (f x y)) ∧ Bl W w')
    (hI : Ints w.heap.size w (.slice a len cap) zs) :
    Calls Tryz.prog 48 #[.int .i64 t0, .func (.func g) #[] #[], .slice a len cap] w fun e w' => e = .returned (.int .i64 (zs.foldl f t0)) ∧ Bl w w' := by
  refine (callsIn_wide (n := 5)).1 ?_
  have HF := Lib.hid hf
  clear hf
  refine callsIn_of_wp_marks Tryz.func48 rfl trivial ?_ rfl
  simp only [Tryz.ntmps48, List.size_toArray, List.length_cons, List.length_nil, Nat.reduceAdd, Nat.reduceSub, Array.replicate_succ, Array.replicate_zero, List.push_toArray, List.append_toArray, List.nil_append, List.cons_append]
  gi_wp2_with fail
  refine ⟨trivial, ?_⟩
  refine (values_in Fence.wide 4 trivial rfl _ _ _ _).mono ?_
  rintro e w' ⟨rfl, rfl⟩
  gi_wp2_with fail
  have bS := Boxed.new w 39 (.int .i64 t0)
  have bG := Boxed.new (w.alloc (.cells #[.int .i64 t0] 39)) 83 (.func (.func g) #[] #[])
  have bN := Boxed.new ((w.alloc (.cells #[.int .i64 t0] 39)).alloc (.cells #[.func (.func g) #[] #[]] 83)) 56 (.slice a len cap)
  simp only [World.size_alloc] at bG bN
  have hB0 : Bl w (((w.alloc (.cells #[.int .i64 t0] 39)).alloc (.cells #[.func (.func g) #[] #[]] 83)).alloc (.cells #[.slice a len cap] 56)) := (((Bl.refl w).alloc _).alloc _).alloc _
  refine wpIn_rangeFunc_ownG rfl (by omega) (gf := 85) (lb := #[.pointer (some ⟨w.heap.size + 1 + 1, 0, none⟩)]) rfl trivial (enters_of Tryz.func85 (by kernel_rfl) rfl)
    (values_stops Fence.wide (5 - 1) trivial rfl (by omega) (w.heap.size + 1 + 1) w.heap.size _ zs hreach _ (by simp) (by simp; omega) bN.cell (hI.below hB0)) belowK_t (belowK_b (by simp; omega)) (Below.refl _ _) (fun _ => rfl)
    (fun pre W => (W.cell? ⟨w.heap.size, 0, none⟩ = some (.int .i64 (pre.foldl f t0)) ∧ W.frozen? ⟨w.heap.size, 0, none⟩ = false ∧ W.cell? ⟨w.heap.size + 1, 0, none⟩ = some (.func (.func g) #[] #[])) ∧ Below w.heap.size w W)
    (fun _ _ _ => False)
    (OwnFrom.and (Own.from (fun s A B row hs hg hr => ⟨cell_kept hs.1 hg hr, (frozen_kept hs.1 hg hr).trans hs.2.1, cell_kept hs.2.2 hg hr⟩) _) (ownFrom_below (Nat.le_refl _) (by simp; omega)))
    (fun _ _ _ _ _ hs _ _ => hs)
    ⟨⟨((bS.alloc _).alloc _).cell, ((bS.alloc _).alloc _).frozen, (bG.alloc _).cell⟩, hB0⟩
    (fun x => { tmps := #[.int .i64 t0, .func (.func g) #[] #[], .slice a len cap, .pointer (some ⟨w.heap.size, 0, none⟩), .pointer (some ⟨w.heap.size + 1, 0, none⟩), undef, .int .i64 0, .int .i64 x, .slice a len cap, .func (.func 85) #[] #[.pointer (some ⟨w.heap.size + 1 + 1, 0, none⟩)], .int .i64 x, undef, undef, undef, undef, undef], defers := [] }) ?assign ?body ?done ?stop
  case assign =>
    intro l x W K hK
    gi_wp2
    exact hK
  case body =>
    rintro l pre x W ⟨⟨hc, hf, hcg⟩, hB⟩ _
    gi_wp2_with fail
    refine ⟨trivial, ?_⟩
    refine (CallsIn.inRound l (callsIn_wide.2 (HF.out _ _ _))).mono ?_
    rintro e W1 ⟨rfl, hb⟩
    have hc1 := Bl.cell hb hc
    have hf1 := Bl.frozen hb hc hf
    have hcg1 := Bl.cell hb hcg
    gi_wp2
    refine ⟨((KeepsOthers.of_bl hb).trans (KeepsOthers.setCell _ _ _)).from _, (hb.mono hB.size).setCell (p := ⟨w.heap.size, 0, none⟩) (Nat.le_refl _) _, ⟨?_, ?_, ?_⟩, (hB.trans (hb.mono hB.size)).setCell (p := ⟨w.heap.size, 0, none⟩) (Nat.le_refl _) _⟩
    · rw [List.foldl_append]; exact World.cell?_setCell_same' _ _ _ (by rw [hc1]; rfl)
    · rw [World.frozen?_setCell]; exact hf1
    · rw [World.cell?_setCell_other]
      · exact hcg1
      · simp
  case done =>
    rintro D ys W hD rfl ⟨⟨hc, _, _⟩, hB⟩ hK
    gi_wp2
    refine ⟨by simp, .inl ⟨_, _, rfl, run_takeDeferred hK, ?_⟩⟩
    exact ⟨_, results_tmp rfl _ _ _, rfl, hB.trans (belowK_b (w := w) (Nat.le_refl _) W D _ _ (by simp at hD; omega) hK rfl rfl)⟩
  case stop =>
    rintro D c pre W _ _ h _
    exact h.elim

theorem enters_And1 (args : Array Value) (w : World) : (callFunc 49 args).run Tryz.prog w = .ok (.enter 49 args) w := by
  simp [go_sem]
theorem enters_Or1 (args : Array Value) (w : World) : (callFunc 50 args).run Tryz.prog w = .ok (.enter 50 args) w := by
  simp [go_sem]

def andL (zs : List Int) : Int := zs.foldl and2 1
def orL (zs : List Int) : Int := not2 (zs.foldl (fun a b => and2 a (not2 b)) 1)

theorem and2_one (n : Int) (h : n = 0 ∨ n = 1 ∨ n = 2) : and2 1 n = n := by rcases h with rfl | rfl | rfl <;> decide
theorem not2_range (n : Int) : not2 n = 0 ∨ not2 n = 1 ∨ not2 n = 2 := by unfold not2; split <;> (try split) <;> simp
theorem and2_range (a b : Int) : and2 a b = 0 ∨ and2 a b = 1 ∨ and2 a b = 2 := by unfold and2; split <;> (try split) <;> simp

set_option maxRecDepth 100000 in
set_option maxHeartbeats 400000 in
theorem And_any (a : Option Addr) (len cap : Nat) (zs : List Int) (hreach : zs.length * 8 ≤ 140737488351232) (w : World) (hI : Ints w.heap.size w (.slice a len cap) zs) :
    Calls Tryz.prog 17 #[.slice a len cap] w fun e w' => e = .returned (.int .i64 (andL zs)) ∧ Bl w w' := by
  go_enter Tryz.func17, Tryz.ntmps17
  go_wp2_with fail
  refine (folded_any 1 49 and2 a len cap zs hreach _ enters_And1 (fun x y W => (And1_any x y W).mono fun e w' ⟨he, hw⟩ => ⟨he, by rw [hw]; exact Bl.refl _⟩) hI).mono ?_
  rintro e w' ⟨rfl, hb⟩
  go_wp2
  go_ret
  exact ⟨rfl, hb⟩

set_option maxRecDepth 100000 in
set_option maxHeartbeats 400000 in
theorem Or1_any (x y : Int) (w : World) : Calls Tryz.prog 50 #[.int .i64 x, .int .i64 y] w fun e w' => e = .returned (.int .i64 (and2 (and2 1 x) (not2 y))) ∧ Bl w w' := by
  go_enter Tryz.func50, Tryz.ntmps50
  go_wp2_with fail
  refine (Not_any _ _).mono ?_
  rintro e w' ⟨rfl, rfl⟩
  go_wp2_with fail
  refine (And_any _ _ _ [x, not2 y] (by simp) _ (.inr ⟨_, _, _, rfl, by simp, ?_⟩)).mono ?_
  · intro j hj
    match j, hj with
    | 0, _ => simp [go_sem]
    | 1, _ => simp [go_sem]
  rintro e w' ⟨rfl, hb⟩
  go_wp2
  go_ret
  exact ⟨rfl, ((Bl.refl _).alloc _).call hb⟩

theorem or_fold (zs : List Int) : ∀ a, (a = 0 ∨ a = 1 ∨ a = 2) → zs.foldl (fun a b => and2 (and2 1 a) (not2 b)) a = zs.foldl (fun a b => and2 a (not2 b)) a := by
  induction zs with
  | nil => intro a _; rfl
  | cons z zs ih =>
    intro a ha
    simp only [List.foldl_cons]
    rw [and2_one a ha]
    exact ih _ (and2_range _ _)

set_option maxRecDepth 100000 in
set_option maxHeartbeats 400000 in
theorem Or_any (a : Option Addr) (len cap : Nat) (zs : List Int) (hreach : zs.length * 8 ≤ 140737488351232) (w : World) (hI : Ints w.heap.size w (.slice a len cap) zs) :
    Calls Tryz.prog 18 #[.slice a len cap] w fun e w' => e = .returned (.int .i64 (orL zs)) ∧ Bl w w' := by
  go_enter Tryz.func18, Tryz.ntmps18
  go_wp2_with fail
  refine (folded_any 1 50 (fun a b => and2 (and2 1 a) (not2 b)) a len cap zs hreach _ enters_Or1 Or1_any hI).mono ?_
  rintro e w' ⟨rfl, hb⟩
  go_wp2_with fail
  refine (Not_any _ _).mono ?_
  rintro e w1 ⟨rfl, rfl⟩
  go_wp2
  go_ret
  exact ⟨ret_int (by rw [or_fold zs 1 (by simp)]; rfl), hb⟩

end Go.Proofs.YtpojlnpbadcnaaaGreatDoor
