/- slices.Values over texts, where the loop's body may write one block of those that lay. -/
import Derived.Test.YtdhaddldmooniaaGreatDoorS5
import Derived.Test.YtdhaddldmooniaaGreatDoorV7
namespace Go.Proofs.YtdhaddldmooniaaGreatDoor
open Go.RowKit Go.Shelf

attribute [local go_sem] Oper.semAt_some

/-- What lay below n₀ stands, but for the block x. -/
def KpX (n₀ x : Nat) (A B : World) : Prop := ∀ k, k < n₀ → k ≠ x → B.heap[k]? = A.heap[k]?
theorem KpX.refl (n₀ x : Nat) (A : World) : KpX n₀ x A A := fun _ _ _ => rfl
theorem KpX.trans {n₀ x : Nat} {A B C : World} (h : KpX n₀ x A B) (k : KpX n₀ x B C) : KpX n₀ x A C := fun i hi hx => (k i hi hx).trans (h i hi hx)
theorem KpX.cell {n₀ x : Nat} {A B : World} (h : KpX n₀ x A B) {b o : Nat} (hb : b < n₀) (hx : b ≠ x) : B.cell? ⟨b, o, none⟩ = A.cell? ⟨b, o, none⟩ := World.cell?_of_block (h b hb hx)
theorem KpX.grown {n₀ x : Nat} {A B : World} (h : A.grownBy B (some x)) (hn : n₀ ≤ A.heap.size) : KpX n₀ x A B := fun k hk hx => h.5 k (by omega) (fun e => hx (by injection e))
theorem kpX_b {n₀ x : Nat} {w : World} (hn : n₀ ≤ w.heap.size) (W : World) (l : Nat) (o o' : Obj) (hl : w.heap.size ≤ l) (h : W.heap[l]? = some o) (_ : o.isCells = false) (_ : o.isWalk = false) : KpX n₀ x W (W.putObj l o') :=
  fun k hk _ => (grownBy_putObj' W l o').5 k (by have := (Array.getElem?_eq_some_iff.1 h).1; omega) (fun e => by injection e; omega)

theorem uptoS_all (xs : List (List UInt8)) : upto (fun j => xs[j]?.getD []) xs.length = xs := by
  apply List.ext_getElem
  · simp [upto]
  · intro i h1 h2
    simp [upto, h2]
theorem uptoS_take (zs : List (List UInt8)) {k : Nat} (hk : k ≤ zs.length) : upto (fun j => zs[j]?.getD []) k = zs.take k := by
  apply List.ext_getElem
  · simp [upto, hk]
  · intro i h1 h2
    have : i < zs.length := by simp [upto] at h1; omega
    simp [upto, this]

set_option maxRecDepth 100000 in
set_option maxHeartbeats 2000000 in
theorem valuesS1_in (F : Fence) (n : Nat) (h7 : F.fn 43) (hro : F.round = none) (hn : 1 ≤ n) (l Bs n₀ x b off len cap : Nat) (zs : List (List UInt8)) (hreach : len ≤ 1000000) (hbb : 0 < len → b < n₀ ∧ b ≠ x) (J Jx : List (List UInt8) → World → Prop)
    (hY : ∀ pre x' W, J pre W → pre.length < len → YieldAt F (n - 1) Tryz.prog l #[S x'] W fun e W' =>
      (e = .returned (.bool true) ∧ J (pre ++ [x']) W' ∧ KpX n₀ x W W') ∨ (e = .returned (.bool false) ∧ Jx (pre ++ [x']) W'))
    (W : World) (hBs : W.cell? ⟨Bs, 0, none⟩ = some (.slice (some ⟨b, off, none⟩) len cap)) (hc : ∀ j, j < len → W.cell? ⟨b, off + j, none⟩ = some (S (zs[j]?.getD []))) (h0 : J [] W) :
    CallsIn F n Tryz.prog 43 #[.func (.yield l) #[] #[], .pointer (some ⟨Bs, 0, none⟩)] W fun e W' => (∃ v, e = .returned v) ∧
      ((∃ ys, ys = upto (fun j => zs[j]?.getD []) len ∧ J ys W') ∨ (∃ pre, (∃ k, k ≤ len ∧ pre = upto (fun j => zs[j]?.getD []) k) ∧ Jx pre W')) := by
  refine callsIn_of_wp Tryz.func43 rfl h7 ?_ hro
  simp only [Tryz.ntmps43, List.size_toArray, List.length_cons, List.length_nil, Nat.reduceAdd, Nat.reduceSub, Array.replicate_succ, Array.replicate_zero, List.push_toArray, List.append_toArray, List.nil_append, List.cons_append]
  gi_wp2
  gi_loopw [7] (fun i wr => ∃ k : Nat, k ≤ len ∧ i = .int .i64 k ∧ J (upto (fun j => zs[j]?.getD []) k) wr ∧ KpX n₀ x W wr)
    (fun i _ => len - (intOf i).toNat)
  case atStart => exact ⟨0, Nat.zero_le _, rfl, h0, KpX.refl _ _ _⟩
  case round =>
    obtain ⟨k, hk, rfl, hJs, hnx⟩ := hrel
    have hcx : k < len → wr.cell? ⟨b, off + k, none⟩ = some (S (zs[k]?.getD [])) := fun h => (hnx.cell (hbb (by omega)).1 (hbb (by omega)).2).trans (hc k h)
    have HN := Lib.hid hnx
    clear hnx
    by_cases hlt : k < len
    · obtain ⟨fn, tmps, assign, body, hy, hR⟩ := hY _ (zs[k]?.getD []) wr hJs (by rw [upto_length]; exact hlt)
      have hcx' := hcx hlt
      generalize hz : zs[k]?.getD [] = z at *
      have HZ := Lib.hid hz
      clear hz hcx
      gi_wp2
      refine hR.mono ?_
      rintro e W3 (⟨rfl, hJ3, hk3⟩ | ⟨rfl, hJx3⟩)
      · have HK3 := Lib.hid hk3
        clear hk3
        gi_wp2
        go_roundw
        case rel => exact ⟨k + 1, by omega, by simp, by rw [upto_succ, HZ.out]; exact hJ3, HN.out.trans HK3.out⟩
        case measure => simp [intOf]; omega
      · gi_wp2
        refine bodyPost_ret (results_none rfl _ _ _) rfl ?_
        exact ⟨⟨_, rfl⟩, .inr ⟨_, ⟨k + 1, by omega, by rw [upto_succ, HZ.out]⟩, hJx3⟩⟩
    · obtain rfl : k = len := by omega
      gi_wp2
      go_end0
      exact ⟨⟨_, rfl⟩, .inl ⟨_, rfl, hJs⟩⟩

set_option maxRecDepth 100000 in
set_option maxHeartbeats 1000000 in
theorem valuesS1_nil_in (a : Option Addr) (cap : Nat) (F : Fence) (n : Nat) (h7 : F.fn 43) (hro : F.round = none) (l Bs : Nat) (J : List (List UInt8) → World → Prop) (W : World) (hBs : W.cell? ⟨Bs, 0, none⟩ = some (.slice a 0 cap)) (h0 : J [] W) :
    CallsIn F n Tryz.prog 43 #[.func (.yield l) #[] #[], .pointer (some ⟨Bs, 0, none⟩)] W fun e W' => (∃ v, e = .returned v) ∧ J [] W' := by
  refine callsIn_of_wp Tryz.func43 rfl h7 ?_ hro
  simp only [Tryz.ntmps43, List.size_toArray, List.length_cons, List.length_nil, Nat.reduceAdd, Nat.reduceSub, Array.replicate_succ, Array.replicate_zero, List.push_toArray, List.append_toArray, List.nil_append, List.cons_append]
  gi_wp2
  gi_loopw [7] (fun i wr => i = .int .i64 0 ∧ J [] wr) (fun _ _ => 0)
  case atStart => exact ⟨rfl, h0⟩
  case round =>
    obtain ⟨rfl, hJs⟩ := hrel
    gi_wp2
    go_end0
    exact ⟨⟨_, rfl⟩, hJs⟩

set_option maxHeartbeats 1000000 in
theorem valuesS_in (F : Fence) (n : Nat) (h5 : F.fn 29) (hro : F.round = none) (a : Option Addr) (len cap : Nat) (w : World) :
    CallsIn F n Tryz.prog 29 #[.slice a len cap] w fun e w' => e = .returned (.func (.func 43) #[] #[.pointer (some ⟨w.heap.size, 0, none⟩)]) ∧ w' = w.alloc (.cells #[.slice a len cap] 45) := by
  refine callsIn_of_wp Tryz.func29 rfl h5 ?_ hro
  simp only [Tryz.ntmps29, List.size_toArray, List.length_cons, List.length_nil, Nat.reduceAdd, Nat.reduceSub, Array.replicate_succ, Array.replicate_zero, List.push_toArray, List.append_toArray, List.nil_append, List.cons_append]
  gi_wp2
  go_ret
  exact ⟨rfl, rfl⟩

/-- The texts lie below n₀, and not in block x. -/
def StrsX (n₀ x : Nat) (W : World) (sv : Value) (xs : List (List UInt8)) : Prop :=
  ∃ a cap, sv = .slice a xs.length cap ∧ ∀ j, j < xs.length → ∃ b off, a = some ⟨b, off, none⟩ ∧ b < n₀ ∧ b ≠ x ∧ W.cell? ⟨b, off + j, none⟩ = some (S (xs[j]?.getD []))
theorem StrsX.keep {n₀ x : Nat} {A B : World} (h : KpX n₀ x A B) {sv : Value} {xs : List (List UInt8)} (k : StrsX n₀ x A sv xs) : StrsX n₀ x B sv xs := by
  obtain ⟨a, cap, e, hc⟩ := k
  refine ⟨a, cap, e, fun j hj => ?_⟩
  obtain ⟨b, off, e2, hb, hx, c⟩ := hc j hj
  exact ⟨b, off, e2, hb, hx, (h.cell hb hx).trans c⟩
theorem valuesS_stops (F : Fence) (n : Nat) (h7 : F.fn 43) (hro : F.round = none) (hn : 1 ≤ n) (Bs n₀ x : Nat) (sv : Value) (zs : List (List UInt8)) (hreach : zs.length ≤ 1000000) (w : World) (hBs : Bs < w.heap.size) (hn₀ : n₀ ≤ w.heap.size)
    (hc : w.cell? ⟨Bs, 0, none⟩ = some sv) (hI : StrsX n₀ x w sv zs) :
    SeqStopsK F n Tryz.prog 43 #[.pointer (some ⟨Bs, 0, none⟩)] (fun x : List UInt8 => #[S x]) (KpX n₀ x) (fun ys => ys = zs) (fun pre => pre <+: zs) zs.length w := fun l J Jx W hW _ _ hY h0 => by
  have hc' := (hW.cell (p := ⟨Bs, 0, none⟩) hBs).trans hc
  have hk : KpX n₀ x w W := fun k hk _ => hW.block k (by omega)
  obtain ⟨a, cap, rfl, hcs⟩ := hI.keep hk
  by_cases hz : zs = []
  · subst hz
    exact (valuesS1_nil_in a cap F n h7 hro l Bs J W hc' h0).mono fun e W' ⟨he, hj⟩ => ⟨he, .inl ⟨_, rfl, hj⟩⟩
  · have hpos : 0 < zs.length := by cases zs with | nil => exact absurd rfl hz | cons _ _ => simp
    obtain ⟨b, off, rfl, hb, hx, -⟩ := hcs 0 hpos
    have hcs' : ∀ j, j < zs.length → W.cell? ⟨b, off + j, none⟩ = some (S (zs[j]?.getD [])) := fun j hj => by
      obtain ⟨b', off', e, _, _, c⟩ := hcs j hj
      injection e with e
      injection e with e1 e2 _
      subst e1
      subst e2
      exact c
    refine (valuesS1_in F n h7 hro hn l Bs n₀ x b off zs.length cap zs hreach (fun _ => ⟨hb, hx⟩) J Jx hY W hc' hcs' h0).mono ?_
    rintro e W' ⟨he, ⟨ys, rfl, hj⟩ | ⟨pre, ⟨k, hk, rfl⟩, hj⟩⟩
    · exact ⟨he, .inl ⟨_, uptoS_all zs, hj⟩⟩
    · exact ⟨he, .inr ⟨_, by rw [uptoS_take zs hk]; exact List.take_prefix _ _, hj⟩⟩

theorem Strs.strsX {w W : World} (hb : Bl w W) {sv : Value} {xs : List (List UInt8)} (h : Strs w sv xs) {n₀ x : Nat} (hn : w.heap.size ≤ n₀) (hx : w.heap.size ≤ x) : StrsX n₀ x W sv xs := by
  obtain ⟨a, cap, e, hc⟩ := h
  refine ⟨a, cap, e, fun j hj => ?_⟩
  obtain ⟨b, off, e2, c⟩ := hc j hj
  have := World.block_lt_of_cell? _ _ c
  simp at this
  refine ⟨b, off, e2, by omega, by omega, ?_⟩
  rw [hb.cell c]
  simp [hj]

end Go.Proofs.YtdhaddldmooniaaGreatDoor
