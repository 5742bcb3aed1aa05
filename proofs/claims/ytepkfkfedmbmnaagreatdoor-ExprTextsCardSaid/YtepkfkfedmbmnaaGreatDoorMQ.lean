/- slices.Values over truths: its contract, after the guide's worked text for ints. slices.Values over texts, where the loop's body may write one block of those that lay. The program's Take. token.New. -/
import Derived.Test.YtepkfkfedmbmnaaGreatDoorMV
import Derived.Test.YtepkfkfedmbmnaaGreatDoorMS
import Derived.RangeFuncNested
import Derived.RangeFuncBound
import Derived.RangeFuncCalls
import Derived.RangeFuncLeaves
import Derived.Shelf.Abstract
import Derived.Shelf.RegionOpen
import Derived.OwnWalkIn
import Derived.TacticsInMore
import Derived.LoopNIn
import Derived.LoopIn
import Derived.RangeFuncBox
namespace Go.Proofs.YtepkfkfedmbmnaaGreatDoor
open Go.RowKit Go.Shelf

attribute [local go_sem] Oper.semAt_some

theorem KeepsOthers.of_bl {W W' : World} (h : Bl W W') : KeepsOthers W W' :=
  ⟨h.size, fun k o hk _ => by rw [h.block k (Array.getElem?_eq_some_iff.1 hk).1]; exact hk⟩

/-- WHAT HAS COME WHEN k ROUNDS ARE OVER: f 0, .., f (k - 1). -/
def upto {α : Type} (f : Nat → α) (k : Nat) : List α := (List.range k).map f
theorem upto_succ {α : Type} (f : Nat → α) (k : Nat) : upto f (k + 1) = upto f k ++ [f k] := by simp [upto, List.range_succ]
theorem upto_length {α : Type} (f : Nat → α) (k : Nat) : (upto f k).length = k := by simp [upto]
theorem upto_all (zs : List Int) : upto (fun j => zs[j]?.getD 0) zs.length = zs := by
  apply List.ext_getElem
  · simp [upto]
  · intro i h1 h2
    simp [upto, h2]

theorem upto_take (zs : List Int) {k : Nat} (hk : k ≤ zs.length) : upto (fun j => zs[j]?.getD 0) k = zs.take k := by
  apply List.ext_getElem
  · simp [upto, hk]
  · intro i h1 h2
    have : i < zs.length := by simp [upto] at h1; omega
    simp [upto, this]

/-- THE SLICE VALUE sv HOLDS THE ints zs, in a block below n₀; or it is nil and there are none. -/
def Ints (n₀ : Nat) (W : World) (sv : Value) (zs : List Int) : Prop :=
  (sv = .slice none 0 0 ∧ zs = []) ∨ ∃ b off cap, sv = .slice (some ⟨b, off, none⟩) zs.length cap ∧ b < n₀ ∧ ∀ j, j < zs.length → W.cell? ⟨b, off + j, none⟩ = some (.int .i64 (zs[j]?.getD 0))
theorem Ints.below {n₀ : Nat} {A B : World} (h : Below n₀ A B) {sv : Value} {zs : List Int} : Ints n₀ A sv zs → Ints n₀ B sv zs
  | .inl e => .inl e
  | .inr ⟨b, off, cap, e, hb, hc⟩ => .inr ⟨b, off, cap, e, hb, fun j hj => (h.cell (p := ⟨b, off + j, none⟩) hb).trans (hc j hj)⟩

end Go.Proofs.YtepkfkfedmbmnaaGreatDoor

namespace Go.Proofs.YtepkfkfedmbmnaaGreatDoor
open Go.RowKit Go.Shelf

attribute [local go_sem] Oper.semAt_some

/-- What lay below n₀ stands, but for the block x. -/
def KpX (n₀ x : Nat) (A B : World) : Prop := ∀ k, k < n₀ → k ≠ x → B.heap[k]? = A.heap[k]?
theorem KpX.refl (n₀ x : Nat) (A : World) : KpX n₀ x A A := fun _ _ _ => rfl
theorem KpX.trans {n₀ x : Nat} {A B C : World} (h : KpX n₀ x A B) (k : KpX n₀ x B C) : KpX n₀ x A C := fun i hi hx => (k i hi hx).trans (h i hi hx)
theorem KpX.cell {n₀ x : Nat} {A B : World} (h : KpX n₀ x A B) {b o : Nat} (hb : b < n₀) (hx : b ≠ x) : B.cell? ⟨b, o, none⟩ = A.cell? ⟨b, o, none⟩ := World.cell?_of_block (h b hb hx)
theorem KpX.grown {n₀ x : Nat} {A B : World} (h : A.grownBy B (some x)) (hn : n₀ ≤ A.heap.size) : KpX n₀ x A B := fun k hk hx => h.5 k (by omega) (fun e => hx (by injection e))
theorem kpX_b {n₀ x : Nat} {w : World} (hn : n₀ ≤ w.heap.size) (W : World) (l : Nat) (o o' : Obj) (hl : w.heap.size ≤ l) (h : W.heap[l]? = some o) (_ : o.isCells = false) (_ : o.isWalk = false) : KpX n₀ x W (W.putObj l o') :=
  fun k hk _ => (grownBy_putObj' W l o').5 k (by have := (Array.getElem?_eq_some_iff.1 h).1; omega) (fun e => by injection e; omega)

theorem uptoS_all (xs : List (List UInt8)) : upto (fun j => xs[j]?.getD []) xs.length = xs := by
  apply List.ext_getElem
  · simp [upto]
  · intro i h1 h2
    simp [upto, h2]
theorem uptoS_take (zs : List (List UInt8)) {k : Nat} (hk : k ≤ zs.length) : upto (fun j => zs[j]?.getD []) k = zs.take k := by
  apply List.ext_getElem
  · simp [upto, hk]
  · intro i h1 h2
    have : i < zs.length := by simp [upto] at h1; omega
    simp [upto, this]

set_option maxRecDepth 100000 in
set_option maxHeartbeats 2000000 in
theorem valuesS1_in (F : Fence) (n : Nat) (h7 : F.fn 139) (hro : F.round = none) (hn : 1 ≤ n) (l Bs n₀ x b off len cap : Nat) (zs : List (List UInt8)) (hreach : len ≤ 1000000) (hbb : 0 < len → b < n₀ ∧ b ≠ x) (J Jx : List (List UInt8) → World → Prop)
    (hY : ∀ pre x' W, J pre W → pre.length < len → YieldAt F (n - 1) Tryz.prog l #[S x'] W fun e W' =>
      (e = .returned (.bool true) ∧ J (pre ++ [x']) W' ∧ KpX n₀ x W W') ∨ (e = .returned (.bool false) ∧ Jx (pre ++ [x']) W'))
    (W : World) (hBs : W.cell? ⟨Bs, 0, none⟩ = some (.slice (some ⟨b, off, none⟩) len cap)) (hc : ∀ j, j < len → W.cell? ⟨b, off + j, none⟩ = some (S (zs[j]?.getD []))) (h0 : J [] W) :
    CallsIn F n Tryz.prog 139 #[.func (.yield l) #[] #[], .pointer (some ⟨Bs, 0, none⟩)] W fun e W' => (∃ v, e = .returned v) ∧
      ((∃ ys, ys = upto (fun j => zs[j]?.getD []) len ∧ J ys W') ∨ (∃ pre, (∃ k, k ≤ len ∧ pre = upto (fun j => zs[j]?.getD []) k) ∧ Jx pre W')) := by
  refine callsIn_of_wp Tryz.func139 rfl h7 ?_ hro
  simp only [Tryz.ntmps139, List.size_toArray, List.length_cons, List.length_nil, Nat.reduceAdd, Nat.reduceSub, Array.replicate_succ, Array.replicate_zero, List.push_toArray, List.append_toArray, List.nil_append, List.cons_append]
  gi_wp2
  gi_loopw [7] (fun i wr => ∃ k : Nat, k ≤ len ∧ i = .int .i64 k ∧ J (upto (fun j => zs[j]?.getD []) k) wr ∧ KpX n₀ x W wr)
    (fun i _ => len - (intOf i).toNat)
  case atStart => exact ⟨0, Nat.zero_le _, rfl, h0, KpX.refl _ _ _⟩
  case round =>
    obtain ⟨k, hk, rfl, hJs, hnx⟩ := hrel
    have hcx : k < len → wr.cell? ⟨b, off + k, none⟩ = some (S (zs[k]?.getD [])) := fun h => (hnx.cell (hbb (by omega)).1 (hbb (by omega)).2).trans (hc k h)
    have HN := Lib.hid hnx
    clear hnx
    by_cases hlt : k < len
    · obtain ⟨fn, tmps, assign, body, hy, hR⟩ := hY _ (zs[k]?.getD []) wr hJs (by rw [upto_length]; exact hlt)
      have hcx' := hcx hlt
      generalize hz : zs[k]?.getD [] = z at *
      have HZ := Lib.hid hz
      clear hz hcx
      gi_wp2
      refine hR.mono ?_
      rintro e W3 (⟨rfl, hJ3, hk3⟩ | ⟨rfl, hJx3⟩)
      · have HK3 := Lib.hid hk3
        clear hk3
        gi_wp2
        go_roundw
        case rel => exact ⟨k + 1, by omega, by simp, by rw [upto_succ, HZ.out]; exact hJ3, HN.out.trans HK3.out⟩
        case measure => simp [intOf]; omega
      · gi_wp2
        refine bodyPost_ret (results_none rfl _ _ _) rfl ?_
        exact ⟨⟨_, rfl⟩, .inr ⟨_, ⟨k + 1, by omega, by rw [upto_succ, HZ.out]⟩, hJx3⟩⟩
    · obtain rfl : k = len := by omega
      gi_wp2
      go_end0
      exact ⟨⟨_, rfl⟩, .inl ⟨_, rfl, hJs⟩⟩

set_option maxRecDepth 100000 in
set_option maxHeartbeats 1000000 in
theorem valuesS1_nil_in (a : Option Addr) (cap : Nat) (F : Fence) (n : Nat) (h7 : F.fn 139) (hro : F.round = none) (l Bs : Nat) (J : List (List UInt8) → World → Prop) (W : World) (hBs : W.cell? ⟨Bs, 0, none⟩ = some (.slice a 0 cap)) (h0 : J [] W) :
    CallsIn F n Tryz.prog 139 #[.func (.yield l) #[] #[], .pointer (some ⟨Bs, 0, none⟩)] W fun e W' => (∃ v, e = .returned v) ∧ J [] W' := by
  refine callsIn_of_wp Tryz.func139 rfl h7 ?_ hro
  simp only [Tryz.ntmps139, List.size_toArray, List.length_cons, List.length_nil, Nat.reduceAdd, Nat.reduceSub, Array.replicate_succ, Array.replicate_zero, List.push_toArray, List.append_toArray, List.nil_append, List.cons_append]
  gi_wp2
  gi_loopw [7] (fun i wr => i = .int .i64 0 ∧ J [] wr) (fun _ _ => 0)
  case atStart => exact ⟨rfl, h0⟩
  case round =>
    obtain ⟨rfl, hJs⟩ := hrel
    gi_wp2
    go_end0
    exact ⟨⟨_, rfl⟩, hJs⟩

set_option maxHeartbeats 1000000 in
theorem valuesS_in (F : Fence) (n : Nat) (h5 : F.fn 118) (hro : F.round = none) (a : Option Addr) (len cap : Nat) (w : World) :
    CallsIn F n Tryz.prog 118 #[.slice a len cap] w fun e w' => e = .returned (.func (.func 139) #[] #[.pointer (some ⟨w.heap.size, 0, none⟩)]) ∧ w' = w.alloc (.cells #[.slice a len cap] 93) := by
  refine callsIn_of_wp Tryz.func118 rfl h5 ?_ hro
  simp only [Tryz.ntmps118, List.size_toArray, List.length_cons, List.length_nil, Nat.reduceAdd, Nat.reduceSub, Array.replicate_succ, Array.replicate_zero, List.push_toArray, List.append_toArray, List.nil_append, List.cons_append]
  gi_wp2
  go_ret
  exact ⟨rfl, rfl⟩

/-- The texts lie below n₀, and not in block x. -/
def StrsX (n₀ x : Nat) (W : World) (sv : Value) (xs : List (List UInt8)) : Prop :=
  ∃ a cap, sv = .slice a xs.length cap ∧ ∀ j, j < xs.length → ∃ b off, a = some ⟨b, off, none⟩ ∧ b < n₀ ∧ b ≠ x ∧ W.cell? ⟨b, off + j, none⟩ = some (S (xs[j]?.getD []))
theorem StrsX.keep {n₀ x : Nat} {A B : World} (h : KpX n₀ x A B) {sv : Value} {xs : List (List UInt8)} (k : StrsX n₀ x A sv xs) : StrsX n₀ x B sv xs := by
  obtain ⟨a, cap, e, hc⟩ := k
  refine ⟨a, cap, e, fun j hj => ?_⟩
  obtain ⟨b, off, e2, hb, hx, c⟩ := hc j hj
  exact ⟨b, off, e2, hb, hx, (h.cell hb hx).trans c⟩
theorem valuesS_stops (F : Fence) (n : Nat) (h7 : F.fn 139) (hro : F.round = none) (hn : 1 ≤ n) (Bs n₀ x : Nat) (sv : Value) (zs : List (List UInt8)) (hreach : zs.length ≤ 1000000) (w : World) (hBs : Bs < w.heap.size) (hn₀ : n₀ ≤ w.heap.size)
    (hc : w.cell? ⟨Bs, 0, none⟩ = some sv) (hI : StrsX n₀ x w sv zs) :
    SeqStopsK F n Tryz.prog 139 #[.pointer (some ⟨Bs, 0, none⟩)] (fun x : List UInt8 => #[S x]) (KpX n₀ x) (fun ys => ys = zs) (fun pre => pre <+: zs) zs.length w := fun l J Jx W hW _ _ hY h0 => by
  have hc' := (hW.cell (p := ⟨Bs, 0, none⟩) hBs).trans hc
  have hk : KpX n₀ x w W := fun k hk _ => hW.block k (by omega)
  obtain ⟨a, cap, rfl, hcs⟩ := hI.keep hk
  by_cases hz : zs = []
  · subst hz
    exact (valuesS1_nil_in a cap F n h7 hro l Bs J W hc' h0).mono fun e W' ⟨he, hj⟩ => ⟨he, .inl ⟨_, rfl, hj⟩⟩
  · have hpos : 0 < zs.length := by cases zs with | nil => exact absurd rfl hz | cons _ _ => simp
    obtain ⟨b, off, rfl, hb, hx, -⟩ := hcs 0 hpos
    have hcs' : ∀ j, j < zs.length → W.cell? ⟨b, off + j, none⟩ = some (S (zs[j]?.getD [])) := fun j hj => by
      obtain ⟨b', off', e, _, _, c⟩ := hcs j hj
      injection e with e
      injection e with e1 e2 _
      subst e1
      subst e2
      exact c
    refine (valuesS1_in F n h7 hro hn l Bs n₀ x b off zs.length cap zs hreach (fun _ => ⟨hb, hx⟩) J Jx hY W hc' hcs' h0).mono ?_
    rintro e W' ⟨he, ⟨ys, rfl, hj⟩ | ⟨pre, ⟨k, hk, rfl⟩, hj⟩⟩
    · exact ⟨he, .inl ⟨_, uptoS_all zs, hj⟩⟩
    · exact ⟨he, .inr ⟨_, by rw [uptoS_take zs hk]; exact List.take_prefix _ _, hj⟩⟩

theorem Strs.strsX {w W : World} (hb : Bl w W) {sv : Value} {xs : List (List UInt8)} (h : Strs w sv xs) {n₀ x : Nat} (hn : w.heap.size ≤ n₀) (hx : w.heap.size ≤ x) : StrsX n₀ x W sv xs := by
  obtain ⟨a, cap, e, hc⟩ := h
  refine ⟨a, cap, e, fun j hj => ?_⟩
  obtain ⟨b, off, e2, c⟩ := hc j hj
  have := World.block_lt_of_cell? _ _ c
  simp at this
  refine ⟨b, off, e2, by omega, by omega, ?_⟩
  rw [hb.cell c]
  simp [hj]

end Go.Proofs.YtepkfkfedmbmnaaGreatDoor

namespace Go.Proofs.YtepkfkfedmbmnaaGreatDoor
open Go.RowKit Go.Shelf

attribute [local go_sem] Oper.semAt_some

theorem grown_far {w A B : World} {x D : Nat} (h : w.grownBy A (some x)) (k : A.grownBy B (some D)) (hD : w.heap.size ≤ D) : w.grownBy B (some x) :=
  ⟨k.1.trans h.1, k.2.trans h.2, k.3.trans h.3, Nat.le_trans h.4 k.4, fun i hi hr => (k.5 i (Nat.lt_of_lt_of_le hi h.4) (fun e => by injection e; omega)).trans (h.5 i hi hr)⟩

/-- What holds of the world between two rounds of Take. -/
def TkI (w : World) (bs g cap : Nat) (ts : List Tok) (k : Nat) (pre : List (List UInt8)) (W : World) : Prop :=
  ∃ k', takeK ts k pre = some k' ∧ Strm W bs g cap ts k' ∧ Boxed W w.heap.size 39 (.pointer (some ⟨bs, 0, none⟩)) ∧ Boxed W (w.heap.size + 1) 4 (.bool false) ∧ Boxed W (w.heap.size + 2) 3 (.int .i64 (k : Int)) ∧ w.grownBy W (some bs)
def TkX (w : World) (bs g cap : Nat) (ts : List Tok) (k : Nat) (c : Code) (pre : List (List UInt8)) (W : World) : Prop :=
  c = .ret ∧ takeK ts k pre = none ∧ Strm W bs g cap ts k ∧ Boxed W (w.heap.size + 1) 4 (.bool false) ∧ w.grownBy W (some bs)
def TakePost (W : World) (bs g cap : Nat) (ts : List Tok) (k : Nat) (xs : List (List UInt8)) (e : Ending) (w' : World) : Prop :=
  W.grownBy w' (some bs) ∧ ((∃ k', takeK ts k xs = some k' ∧ e = .returned (.bool true) ∧ Strm w' bs g cap ts k') ∨ (takeK ts k xs = none ∧ e = .returned (.bool false) ∧ Strm w' bs g cap ts k))

theorem Strm.grownBy {W W' : World} {bs g cap k : Nat} {ts : List Tok} (h : Strm W bs g cap ts k) {row : Option Nat} (hg : W.grownBy W' row) (h1 : some bs ≠ row) (h2 : some g ≠ row) : Strm W' bs g cap ts k :=
  h.keep (hg.block bs (Array.getElem?_eq_some_iff.1 h.own).1 h1) (hg.block g (World.block_lt_of_cell? _ _ (h.row k h.lt).1) h2)

theorem tkI_own (w : World) (B bs g cap : Nat) (ts : List Tok) (k : Nat) (hB : w.heap.size + 2 < B) (hbs : bs < w.heap.size) (hg : g < w.heap.size) : OwnFrom B (TkI w bs g cap ts k) := by
  rintro s W W' row ⟨k', h1, h2, h3, h4, h5, h6⟩ hgr hr
  have hne : ∀ i, i < B → some i ≠ row := fun i hi e => by have := (hr i e.symm).1; omega
  refine ⟨k', h1, h2.grownBy hgr (hne _ (by omega)) (hne _ (by omega)), h3.kept hgr (hne _ (by omega)), h4.kept hgr (hne _ (by omega)), h5.kept hgr (hne _ (by omega)), ?_⟩
  cases row with
  | none => exact ⟨hgr.1.trans h6.1, hgr.2.trans h6.2, hgr.3.trans h6.3, Nat.le_trans h6.4 hgr.4, fun i hi hx => (hgr.5 i (Nat.lt_of_lt_of_le hi h6.4) (by simp)).trans (h6.5 i hi hx)⟩
  | some r => exact grown_far h6 hgr (by have := (hr r rfl).1; omega)
theorem tkX_own (w : World) (B bs g cap : Nat) (ts : List Tok) (k : Nat) (c : Code) (hB : w.heap.size + 2 < B) (hbs : bs < w.heap.size) (hg : g < w.heap.size) : OwnFrom B (TkX w bs g cap ts k c) := by
  rintro s W W' row ⟨h0, h1, h2, h4, h6⟩ hgr hr
  have hne : ∀ i, i < B → some i ≠ row := fun i hi e => by have := (hr i e.symm).1; omega
  refine ⟨h0, h1, h2.grownBy hgr (hne _ (by omega)) (hne _ (by omega)), h4.kept hgr (hne _ (by omega)), ?_⟩
  cases row with
  | none => exact ⟨hgr.1.trans h6.1, hgr.2.trans h6.2, hgr.3.trans h6.3, Nat.le_trans h6.4 hgr.4, fun i hi hx => (hgr.5 i (Nat.lt_of_lt_of_le hi h6.4) (by simp)).trans (h6.5 i hi hx)⟩
  | some r => exact grown_far h6 hgr (by have := (hr r rfl).1; omega)

theorem tk_go {w W1 W3 : World} {B bs g cap k k2 : Nat} {ts : List Tok} {pre : List (List UInt8)} {a : Act} (hg3 : W1.grownBy W3 (some bs)) (hB : bs < B) (hl : w.heap.size ≤ W1.heap.size) (h1 : takeK ts k pre = some k2) (h2 : Strm W3 bs g cap ts k2)
    (h3 : Boxed W3 w.heap.size 39 (.pointer (some ⟨bs, 0, none⟩))) (h4 : Boxed W3 (w.heap.size + 1) 4 (.bool false)) (h5 : Boxed W3 (w.heap.size + 2) 3 (.int .i64 (k : Int))) (hg : w.grownBy W1 (some bs)) :
    ownPostG B (KpX w.heap.size bs) (TkI w bs g cap ts k) (TkX w bs g cap ts k) pre W1 .normal a W3 :=
  ⟨KeepsFrom.of_grownBy hg3 (fun j e => by injection e with e; omega), KpX.grown hg3 hl, k2, h1, h2, h3, h4, h5, grown_trans hg hg3⟩
theorem tk_stop {w W1 W2 : World} {B bs g cap k k' : Nat} {ts : List Tok} {pre : List (List UInt8)} {a : Act} (o : Obj) (hg2 : W1.grownBy W2 (some bs)) (hbs : bs < w.heap.size) (hB : w.heap.size + 2 < B) (hk : k < ts.length) (hg' : g < w.heap.size) (h1 : takeK ts k pre = none) (h2 : Strm W2 bs g cap ts k')
    (h4 : Boxed W2 (w.heap.size + 1) 4 (.bool false)) (hg : w.grownBy W1 (some bs)) :
    ownPostG B (KpX w.heap.size bs) (TkI w bs g cap ts k) (TkX w bs g cap ts k) pre W1 .ret a (((W2.setCell ⟨bs, 1, none⟩ (.int .i64 (k : Int))).setCell ⟨w.heap.size + 1, 0, none⟩ (.bool false)).alloc o) := by
  refine ⟨(KeepsFrom.of_grownBy hg2 (fun j e => by injection e with e; omega)).trans ((KeepsFrom.of_grownBy (grown_set _ _ _) (fun j e => by injection e with e; omega)).trans ((KeepsFrom.of_grownBy (grown_set _ _ _) (fun j e => by injection e with e; omega)).trans (KeepsFrom.of_grownBy (World.grownBy_alloc _ _ none) (fun j e => by cases e)))), rfl, h1, ?_, ?_, ?_⟩
  · have s1 := h2.turn k hk
    exact (s1.keep (heap_set_other _ ⟨w.heap.size + 1, 0, none⟩ _ _ (by simp; omega)) (heap_set_other _ ⟨w.heap.size + 1, 0, none⟩ _ _ (by simp; omega))).bl ((Bl.refl _).alloc _)
  · refine Boxed.alloc ?_ o
    have : Boxed (W2.setCell ⟨bs, 1, none⟩ (.int .i64 (k : Int))) (w.heap.size + 1) 4 (.bool false) := h4.kept (grown_set _ _ _) (by simp; omega)
    exact this.set _
  · exact grown_alloc (grown_newset (grown_trans (grown_trans hg hg2) (grown_set _ _ _)) 0 (by omega) _) o
theorem take_leave {w W : World} {D bs g cap k : Nat} {ts : List Tok} {xs : List (List UInt8)} {a : Act} {v : Bool} {k2 : Nat} (hD : w.heap.size + 4 ≤ D) (hbs : bs < w.heap.size) (hgl : g < w.heap.size) (ht : a.tmps[4]? = some (.pointer (some ⟨w.heap.size + 1, 0, none⟩))) (hd : a.defers = [{ target := .collected D, args := #[] }])
    (hK : W.heap[D]? = some (.deferred (some []))) (h1 : Boxed W (w.heap.size + 1) 4 (.bool v)) (hs : Strm W bs g cap ts k2) (hg : w.grownBy W (some bs)) (hv : (v = true ∧ takeK ts k xs = some k2) ∨ (v = false ∧ takeK ts k xs = none ∧ k2 = k)) :
    bodyPostM Fence.wide 5 Tryz.prog Tryz.f88 (TakePost w bs g cap ts k xs) .ret a W := by
  obtain ⟨tm, df⟩ := a
  simp only at ht hd
  subst hd
  refine ⟨by simp, .inl ⟨_, _, rfl, run_takeDeferred hK, ?_⟩⟩
  have hgp := grownBy_putObj' W D (.deferred none)
  have c := (h1.kept hgp (by simp; omega)).cell
  refine ⟨.bool v, by simp [results, Tryz.results88, go_sem, ht, c], grown_far hg hgp (by omega), ?_⟩
  have hs' := hs.grownBy hgp (by simp; omega) (by simp; omega)
  rcases hv with ⟨rfl, h⟩ | ⟨rfl, h, rfl⟩
  · exact .inl ⟨_, h, rfl, hs'⟩
  · exact .inr ⟨h, rfl, hs'⟩

set_option maxRecDepth 100000 in
set_option maxHeartbeats 4000000 in
theorem tTake_any {W : World} {bs g cap k : Nat} {ts : List Tok} (h : Strm W bs g cap ts k) (sv : Value) (xs : List (List UInt8)) (hxs : StrsX W.heap.size bs W sv xs) (hm : xs.length ≤ 1000000) :
    Calls Tryz.prog 88 #[.pointer (some ⟨bs, 0, none⟩), sv] W (TakePost W bs g cap ts k xs) := by
  refine (callsIn_wide (n := 5)).1 ?_
  have hbl : bs < W.heap.size := (Array.getElem?_eq_some_iff.1 h.own).1
  have hgl : g < W.heap.size := World.block_lt_of_cell? _ _ (h.row k h.lt).1
  have H := Lib.hid h
  have HX := Lib.hid hxs
  obtain ⟨a, cx, rfl⟩ : ∃ a cx, sv = .slice a xs.length cx := by
    obtain ⟨a, cx, rfl, _⟩ := hxs
    exact ⟨_, _, rfl⟩
  clear h hxs
  refine callsIn_of_wp_marks Tryz.func88 rfl trivial ?_ rfl
  simp only [Tryz.ntmps88, List.size_toArray, List.length_cons, List.length_nil, Nat.reduceAdd, Nat.reduceSub, Array.replicate_succ, Array.replicate_zero, List.push_toArray, List.append_toArray, List.nil_append, List.cons_append]
  have hB0 : Bl W ((W.alloc (.cells #[.pointer (some ⟨bs, 0, none⟩)] 39)).alloc (.cells #[.bool false] 4)) := ((Bl.refl W).alloc _).alloc _
  gi_wp2_with fail
  refine ⟨trivial, ?_⟩
  refine (callsIn_wide.2 (tnone_no (H.out.bl hB0))).mono ?_
  rintro e w' ⟨rfl, rfl⟩
  gi_wp2_with fail
  refine ⟨trivial, ?_⟩
  refine (callsIn_wide.2 (tnow_any (H.out.bl hB0))).mono ?_
  rintro e w' ⟨rfl, rfl⟩
  gi_wp2_with fail
  refine ⟨trivial, ?_⟩
  refine (valuesS_in Fence.wide 4 trivial rfl _ _ _ _).mono ?_
  rintro e w' ⟨rfl, rfl⟩
  gi_wp2_with fail
  have b0 := Boxed.new W 39 (.pointer (some ⟨bs, 0, none⟩))
  have b1 := Boxed.new (W.alloc (.cells #[.pointer (some ⟨bs, 0, none⟩)] 39)) 4 (.bool false)
  have b2 := Boxed.new ((W.alloc (.cells #[.pointer (some ⟨bs, 0, none⟩)] 39)).alloc (.cells #[.bool false] 4)) 3 (.int .i64 (k : Int))
  have b3 := Boxed.new (((W.alloc (.cells #[.pointer (some ⟨bs, 0, none⟩)] 39)).alloc (.cells #[.bool false] 4)).alloc (.cells #[.int .i64 (k : Int)] 3)) 93 (.slice a xs.length cx)
  simp only [World.size_alloc] at b1 b2 b3
  have hB4 : Bl W ((((W.alloc (.cells #[.pointer (some ⟨bs, 0, none⟩)] 39)).alloc (.cells #[.bool false] 4)).alloc (.cells #[.int .i64 (k : Int)] 3)).alloc (.cells #[.slice a xs.length cx] 93)) := (hB0.alloc _).alloc _
  have hX4 := HX.out.keep (fun i hi _ => hB4.block i hi)
  have hI0 : TkI W bs g cap ts k [] ((((W.alloc (.cells #[.pointer (some ⟨bs, 0, none⟩)] 39)).alloc (.cells #[.bool false] 4)).alloc (.cells #[.int .i64 (k : Int)] 3)).alloc (.cells #[.slice a xs.length cx] 93)) :=
    ⟨k, rfl, H.out.bl hB4, ((b0.alloc _).alloc _).alloc _, (b1.alloc _).alloc _, b2.alloc _, grown_bl hB4 _⟩
  have hsz : ((((W.alloc (.cells #[.pointer (some ⟨bs, 0, none⟩)] 39)).alloc (.cells #[.bool false] 4)).alloc (.cells #[.int .i64 (k : Int)] 3)).alloc (.cells #[.slice a xs.length cx] 93)).heap.size = W.heap.size + 4 := by simp
  clear b0 b1 b2 hB0 hB4
  generalize (((W.alloc (.cells #[.pointer (some ⟨bs, 0, none⟩)] 39)).alloc (.cells #[.bool false] 4)).alloc (.cells #[.int .i64 (k : Int)] 3)).alloc (.cells #[.slice a xs.length cx] 93) = W4 at *
  have HSZ := Lib.hid hsz
  refine wpIn_rangeFunc_ownG rfl (by omega) (gf := 139) (lb := #[.pointer (some ⟨W.heap.size + 1 + 1 + 1, 0, none⟩)]) rfl trivial (enters_of Tryz.func139 (by kernel_rfl) rfl)
    (valuesS_stops Fence.wide (5 - 1) trivial rfl (by omega) (W.heap.size + 1 + 1 + 1) W.heap.size bs _ xs hm W4 (by omega) (by omega) b3.cell hX4) KpX.trans (kpX_b (by omega)) (Below.refl _ _) (fun _ => rfl)
    (TkI W bs g cap ts k) (TkX W bs g cap ts k) (tkI_own W _ bs g cap ts k (by omega) hbl hgl) (fun c => tkX_own W _ bs g cap ts k c (by omega) hbl hgl) hI0
    (fun x => { tmps := #[.pointer (some ⟨bs, 0, none⟩), .slice a xs.length cx, .pointer (some ⟨W.heap.size, 0, none⟩), undef, .pointer (some ⟨W.heap.size + 1, 0, none⟩), .pointer (some ⟨W.heap.size + 1 + 1, 0, none⟩), S x, undef, .pointer (some ⟨bs, 0, none⟩), .bool false, .pointer (some ⟨bs, 0, none⟩), .pointer (some ⟨bs, 0, none⟩), .pointer (some ⟨bs, 0, none⟩), .int .i64 (k : Int), .slice a xs.length cx, .func (.func 139) #[] #[.pointer (some ⟨W.heap.size + 1 + 1 + 1, 0, none⟩)], S x, undef, undef, undef, undef, undef, undef, undef, undef, undef, undef, undef, undef, undef, undef, undef, undef, undef, undef, undef, undef, undef], defers := [] }) ?assign ?body ?done ?stop
  case assign =>
    intro l x W1 K hK
    gi_wp2
    exact hK
  case body =>
    rintro l pre x W1 ⟨k', ht, hs, c0, c1, c2, hg⟩ _
    have HT := Lib.hid ht
    have HS := Lib.hid hs
    obtain ⟨y, hy⟩ : ∃ y, ts[k']? = some y := ⟨_, List.getElem?_eq_getElem hs.lt⟩
    have HY := Lib.hid hy
    have p0 := c0.cell
    have C1 := Lib.hid c1
    have C2 := Lib.hid c2
    have HG := Lib.hid hg
    have C0 := Lib.hid c0
    have hl1 := hg.4
    clear ht hs hy c1 c2 hg c0
    gi_wp2_with fail
    refine ⟨trivial, ?_⟩
    refine (CallsIn.inRound l (callsIn_wide.2 (tNext_any HS.out HY.out))).mono ?_
    rintro e W2 ⟨rfl, hg2, hs2⟩
    have c0' := C0.out.kept hg2 (by simp; omega)
    have c1' := Lib.hid (C1.out.kept hg2 (by simp; omega))
    have c2' := C2.out.kept hg2 (by simp; omega)
    have p0' := c0'.cell
    have p2' := c2'.cell
    have HS2 := Lib.hid hs2
    have HG2 := Lib.hid hg2
    have HC0 := Lib.hid c0'
    have HC2 := Lib.hid c2'
    obtain ⟨s0, s1, z0, z1, hlt⟩ := cells2 hs2.own
    have c1b := c1'.out.cell
    have c1f := c1'.out.frozen
    have hl2 := hg2.4
    have hst : W.heap.size + 2 < W2.heap.size := HC2.out.lt
    clear c0' c2' hs2 hg2
    obtain ⟨yk, yp, yt, ya, yb, yc⟩ := y
    have key : Hid (isB ⟨yk, yp, yt, (ya, yb, yc)⟩ x = true ∧ takeK ts k (pre ++ [x]) = some (nextK ts.length k') ∨ isB ⟨yk, yp, yt, (ya, yb, yc)⟩ x = false ∧ takeK ts k (pre ++ [x]) = none) := by
      show _ ∨ _
      rw [takeK_app, HT.out, Option.bind_some, takeK_cons HY.out]
      cases isB ⟨yk, yp, yt, (ya, yb, yc)⟩ x <;> simp [takeK]
    have hG3 := Lib.hid (grown_trans HG2.out (grown_alloc (grown_bl (Bl.refl W2) (some bs)) (.cells #[.int .i64 yk, .int .i64 (yp : Int), S yt, .int .i64 ya, .int .i64 yb, S yc] 53)))
    have HKL := Lib.hid H.out.lt
    have q0 : W.heap.size < W2.heap.size := by omega
    have q1 : W.heap.size + 1 < W2.heap.size := by omega
    cases he : (yt == x)
    · have hne : (yt != x) = true := by simp [bne, he]
      have HK : Hid (takeK ts k (pre ++ [x]) = none) := by
        rcases key.out with ⟨h, _⟩ | ⟨_, h⟩
        · simp [isB, he] at h
        · exact h
      gi_wp2
      exact tk_stop _ HG2.out hbl (by have := HSZ.out; omega) HKL.out hgl HK.out HS2.out c1'.out HG.out
    · have hne : (yt != x) = false := by simp [bne, he]
      by_cases hk1 : yk = 1
      · subst hk1
        have HK : Hid (takeK ts k (pre ++ [x]) = some (nextK ts.length k')) := by
          rcases key.out with ⟨_, h⟩ | ⟨h, _⟩
          · exact h
          · simp [isB, he] at h
        gi_wp2
        exact tk_go hG3.out (by have := HSZ.out; omega) hl1 HK.out (HS2.out.bl ((Bl.refl W2).alloc _)) (HC0.out.alloc _) (c1'.out.alloc _) (HC2.out.alloc _) HG.out
      by_cases hk3 : yk = 3
      · subst hk3
        have HK : Hid (takeK ts k (pre ++ [x]) = some (nextK ts.length k')) := by
          rcases key.out with ⟨_, h⟩ | ⟨h, _⟩
          · exact h
          · simp [isB, he] at h
        gi_wp2
        exact tk_go hG3.out (by have := HSZ.out; omega) hl1 HK.out (HS2.out.bl ((Bl.refl W2).alloc _)) (HC0.out.alloc _) (c1'.out.alloc _) (HC2.out.alloc _) HG.out
      have b1 : (yk == 1) = false := by simpa using hk1
      have b3 : (yk == 3) = false := by simpa using hk3
      have n1 : (yk != 1) = true := by simpa using hk1
      have n3 : (yk != 3) = true := by simpa using hk3
      have HK : Hid (takeK ts k (pre ++ [x]) = none) := by
        rcases key.out with ⟨h, _⟩ | ⟨_, h⟩
        · simp [isB, b1, b3] at h
        · exact h
      clear hk1 hk3
      gi_wp2
      exact tk_stop _ HG2.out hbl (by have := HSZ.out; omega) HKL.out hgl HK.out HS2.out c1'.out HG.out
  case done =>
    rintro D ys W1 hD rfl ⟨k', ht, hs, c0, c1, c2, hg⟩ hK
    have p1 := c1.cell
    have f1 := c1.frozen
    have hs' : Strm (W1.setCell ⟨W.heap.size + 1, 0, none⟩ (.bool true)) bs g cap ts k' := hs.keep (heap_set_other _ ⟨W.heap.size + 1, 0, none⟩ _ _ (by simp; omega)) (heap_set_other _ ⟨W.heap.size + 1, 0, none⟩ _ _ (by simp; omega))
    have hD' : (W1.setCell ⟨W.heap.size + 1, 0, none⟩ (.bool true)).heap[D]? = some (.deferred (some [])) := (heap_set_other _ ⟨W.heap.size + 1, 0, none⟩ _ _ (by simp; omega)).trans hK
    have hg' := grown_newset hg (b := W.heap.size + 1) 0 (by omega) (.bool true)
    have HC1 := Lib.hid (c1.set (.bool true))
    have HH := Lib.hid (And.intro hs' (And.intro hD' (And.intro hg' ht)))
    clear hs' hD' hg' ht hs c0 c1 c2 hg hK
    gi_wp2
    exact take_leave (by omega) hbl hgl rfl rfl HH.out.2.1 HC1.out HH.out.1 HH.out.2.2.1 (.inl ⟨rfl, HH.out.2.2.2⟩)
  case stop =>
    rintro D c pre W1 hD hpre ⟨rfl, ht, hs, c1, hg⟩ hK
    have ht2 : takeK ts k xs = none := by
      obtain ⟨r, rfl⟩ := hpre
      rw [takeK_app, ht]; rfl
    have HH := Lib.hid (And.intro hs (And.intro hK (And.intro hg (And.intro ht2 c1))))
    clear ht hs c1 hg hK ht2
    gi_wp2
    exact take_leave (by omega) hbl hgl rfl rfl HH.out.2.1 HH.out.2.2.2.2 HH.out.1 HH.out.2.2.1 (.inr ⟨rfl, HH.out.2.2.2.1, rfl⟩)

set_option maxRecDepth 100000 in
set_option maxHeartbeats 1000000 in
theorem tTake_none {W : World} {p : Option Addr} (h : NoStr W p) (a : Option Addr) (n c : Nat) : Calls Tryz.prog 88 #[.pointer p, .slice a n c] W fun e w' => e = .returned (.bool false) ∧ Bl W w' := by
  refine (callsIn_wide (n := 5)).1 ?_
  have H := Lib.hid h
  clear h
  refine callsIn_of_wp_marks Tryz.func88 rfl trivial ?_ rfl
  simp only [Tryz.ntmps88, List.size_toArray, List.length_cons, List.length_nil, Nat.reduceAdd, Nat.reduceSub, Array.replicate_succ, Array.replicate_zero, List.push_toArray, List.append_toArray, List.nil_append, List.cons_append]
  have hB0 : Bl W ((W.alloc (.cells #[.pointer p] 39)).alloc (.cells #[.bool false] 4)) := ((Bl.refl W).alloc _).alloc _
  gi_wp2_with fail
  refine ⟨trivial, ?_⟩
  refine (callsIn_wide.2 (tnone_yes (H.out.bl hB0))).mono ?_
  rintro e w' ⟨rfl, rfl⟩
  gi_wp2
  exact ⟨.bool false, by simp [results, Tryz.results88, go_sem], rfl, hB0⟩

end Go.Proofs.YtepkfkfedmbmnaaGreatDoor

namespace Go.Proofs.YtepkfkfedmbmnaaGreatDoor
open Go.RowKit
set_option maxRecDepth 100000

theorem few_toks {l : List UInt8} {ts : List Tok} (h : toksO l = some ts) : ts.length ≤ l.length := (blanked_length (parse := parseO) l.length l.length l (Nat.le_refl _) ts h).2
def NewPost (W : World) (l : List UInt8) (ts : List Tok) (e : Ending) (w' : World) : Prop :=
  ∃ bs g cap, e = .returned (.tuple #[.pointer (some ⟨bs, 0, none⟩), .int .i64 0]) ∧ Bl W w' ∧ W.heap.size ≤ bs ∧ W.heap.size ≤ g ∧ Strm w' bs g cap (ts ++ [endTok l.length]) 0
set_option maxHeartbeats 1000000 in
theorem tNew_good (l : List UInt8) (hl : l.length ≤ 4000) (ts : List Tok) (h : toksO l = some ts) (W : World) (hG : Glob W) : Calls Tryz.prog 12 #[S l] W (NewPost W l ts) := by
  have hf := few_toks h
  have H := Lib.hid h
  clear h
  go_enter Tryz.func12, Tryz.ntmps12
  go_wp2_with fail
  (with_reducible refine (All_good l hl ts H.out W hG).mono ?_)
  rintro e w1 ⟨g, cap, rfl, hb, hg, ho⟩
  have HR : Hid (Row w1 g (ts ++ [endTok l.length])) := got_at ho
  have hgl : g < w1.heap.size := (ho.lt g rfl).2
  clear ho
  go_wp2
  go_ret2
  refine ⟨_, g, cap, rfl, hb.alloc _, hb.size, hg, ⟨?_, HR.out.bl ((Bl.refl w1).alloc _), by simp, by simp; omega, by omega⟩⟩
  rw [heap_new]
  simp
theorem tNew_bad (l : List UInt8) (hl : l.length ≤ 9223372036854775807) (h : allErr l ≠ 0) (W : World) (hG : Glob W) : Calls Tryz.prog 12 #[S l] W fun e w' => e = .returned (.tuple #[.pointer none, .int .i64 (allErr l)]) ∧ Bl W w' := by
  have hne : (allErr l != 0) = true := by simpa using h
  go_enter Tryz.func12, Tryz.ntmps12
  go_wp2_with fail
  (with_reducible refine (tAll_any l hl W hG).mono ?_)
  rintro e w1 ⟨v, rfl, hb, hv, -⟩
  obtain rfl := hv h
  clear hv
  generalize hx : allErr l = x at *
  have HX := Lib.hid hx
  clear hx
  go_wp2
  go_ret2
  exact ⟨by rw [HX.out]; rfl, hb⟩

end Go.Proofs.YtepkfkfedmbmnaaGreatDoor

