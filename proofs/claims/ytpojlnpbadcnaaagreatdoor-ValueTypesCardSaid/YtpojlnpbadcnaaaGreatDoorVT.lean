/- value.names, Types, its closure; ref TypeName. -/
import Derived.Test.YtpojlnpbadcnaaaGreatDoorV7
import Derived.WalkMore
namespace Go.Proofs.YtpojlnpbadcnaaaGreatDoor
open Go.RowKit Go.Shelf
set_option maxRecDepth 100000

attribute [local go_sem] Oper.semAt_some

/-- The types' names. -/
def tname : Nat → List UInt8
  | 1 => [98, 111, 111, 108]
  | 2 => [105, 110, 116]
  | 3 => [116, 101, 120, 116]
  | 4 => [98, 108, 111, 98]
  | _ => []

theorem rTypeName_any (k : Nat) (h1 : 1 ≤ k) (h4 : k ≤ 4) (w : World) : Calls Tryz.prog 25 #[.int .i64 k] w fun e w' => e = .returned (.string ⟨(tname k).toArray⟩) ∧ Bl w w' := by
  obtain rfl | rfl | rfl | rfl : k = 1 ∨ k = 2 ∨ k = 3 ∨ k = 4 := by omega
  all_goals
    go_enter Tryz.func25, Tryz.ntmps25
    go_wp2
    go_ret
    exact ⟨rfl, (Bl.refl _).alloc _⟩

theorem names_any (w : World) : Calls Tryz.prog 54 #[] w fun e w' => e = .returned (.agg #[.string ⟨#[]⟩, .string ⟨#[98, 111, 111, 108]⟩, .string ⟨#[105, 110, 116]⟩, .string ⟨#[116, 101, 120, 116]⟩, .string ⟨#[98, 108, 111, 98]⟩]) ∧ ∃ o, w' = w.alloc o := by
  go_enter Tryz.func54, Tryz.ntmps54
  go_wp2
  exact bodyPost_ret (v := .agg #[.string ⟨#[]⟩, .string ⟨#[98, 111, 111, 108]⟩, .string ⟨#[105, 110, 116]⟩, .string ⟨#[116, 101, 120, 116]⟩, .string ⟨#[98, 108, 111, 98]⟩]) (by simp [results, Tryz.results54, go_sem, tname]) rfl ⟨rfl, _, rfl⟩

theorem Types_any (w : World) : Calls Tryz.prog 24 #[] w fun e w' => e = .returned (.func (.func 53) #[] #[]) ∧ w = w' := by
  go_enter Tryz.func24, Tryz.ntmps24
  go_wp2
  go_ret
  exact ⟨rfl, rfl⟩

theorem wpIn_scope_wide {n : Nat} {P : Program} {Q : Exit → Act → World → Prop} {a : Act} {w : World} {c : Code} (h : c.wpIn Fence.wide n P (Exit.noGoto Q) a w) : (Code.scope c).wpIn Fence.wide n P Q a w :=
  wpIn_wide.2 (wp_scope_straight (wpIn_wide.1 h))

/-- What comes at round j. -/
def typ (j : Nat) : Int × List UInt8 := ((j : Int) + 1, tname (j + 1))
def encT (x : Int × List UInt8) : Array Value := #[.int .i64 x.1, .string ⟨x.2.toArray⟩]

set_option maxHeartbeats 2000000 in
theorem Types1_in (n : Nat) (hn : 1 ≤ n) (l : Nat) (J Jx : List (Int × List UInt8) → World → Prop)
    (hJ : ∀ pre (A : World) (o : Obj), J pre A → J pre (A.alloc o))
    (hY : ∀ pre x W, J pre W → pre.length < 4 → YieldAt Fence.wide (n - 1) Tryz.prog l (encT x) W fun e W' =>
      (e = .returned (.bool true) ∧ J (pre ++ [x]) W' ∧ True) ∨ (e = .returned (.bool false) ∧ Jx (pre ++ [x]) W'))
    (W : World) (h0 : J [] W) :
    CallsIn Fence.wide n Tryz.prog 53 #[.func (.yield l) #[] #[]] W fun e W' => (∃ v, e = .returned v) ∧
      ((∃ ys, ys = upto typ 4 ∧ J ys W') ∨ (∃ pre, (∃ k, k ≤ 4 ∧ pre = upto typ k) ∧ Jx pre W')) := by
  refine callsIn_of_wp Tryz.func53 rfl trivial ?_ rfl
  simp only [Tryz.ntmps53, List.size_toArray, List.length_cons, List.length_nil, Nat.reduceAdd, Nat.reduceSub, Array.replicate_succ, Array.replicate_zero, List.push_toArray, List.append_toArray, List.nil_append, List.cons_append]
  gi_wp2_with fail
  refine wpIn_scope_wide (wpIn_seq (wpIn_label ?_))
  gi_wp2_with fail
  refine ⟨trivial, ?_⟩
  refine (callsIn_wide.2 (names_any _)).mono ?_
  rintro e w1 ⟨rfl, o, rfl⟩
  have h1 := hJ [] W o h0
  generalize W.alloc o = W1 at *
  gi_wp2_with fail
  have i0 : ∀ w, (Instr.index 85 (.agg #[.string ⟨#[]⟩, .string ⟨#[98, 111, 111, 108]⟩, .string ⟨#[105, 110, 116]⟩, .string ⟨#[116, 101, 120, 116]⟩, .string ⟨#[98, 108, 111, 98]⟩]) (.int .i64 0)).run Tryz.prog w = .ok (.string ⟨#[]⟩) w := fun _ => by kernel_rfl
  have i1 : ∀ w, (Instr.index 85 (.agg #[.string ⟨#[]⟩, .string ⟨#[98, 111, 111, 108]⟩, .string ⟨#[105, 110, 116]⟩, .string ⟨#[116, 101, 120, 116]⟩, .string ⟨#[98, 108, 111, 98]⟩]) (.int .i64 1)).run Tryz.prog w = .ok (.string ⟨#[98, 111, 111, 108]⟩) w := fun _ => by kernel_rfl
  have i2 : ∀ w, (Instr.index 85 (.agg #[.string ⟨#[]⟩, .string ⟨#[98, 111, 111, 108]⟩, .string ⟨#[105, 110, 116]⟩, .string ⟨#[116, 101, 120, 116]⟩, .string ⟨#[98, 108, 111, 98]⟩]) (.int .i64 2)).run Tryz.prog w = .ok (.string ⟨#[105, 110, 116]⟩) w := fun _ => by kernel_rfl
  have i3 : ∀ w, (Instr.index 85 (.agg #[.string ⟨#[]⟩, .string ⟨#[98, 111, 111, 108]⟩, .string ⟨#[105, 110, 116]⟩, .string ⟨#[116, 101, 120, 116]⟩, .string ⟨#[98, 108, 111, 98]⟩]) (.int .i64 3)).run Tryz.prog w = .ok (.string ⟨#[116, 101, 120, 116]⟩) w := fun _ => by kernel_rfl
  have i4 : ∀ w, (Instr.index 85 (.agg #[.string ⟨#[]⟩, .string ⟨#[98, 111, 111, 108]⟩, .string ⟨#[105, 110, 116]⟩, .string ⟨#[116, 101, 120, 116]⟩, .string ⟨#[98, 108, 111, 98]⟩]) (.int .i64 4)).run Tryz.prog w = .ok (.string ⟨#[98, 108, 111, 98]⟩) w := fun _ => by kernel_rfl
  gi_loopw [5] (fun i wr => ∃ k : Nat, k ≤ 5 ∧ i = .int .i64 k ∧ J (upto typ (k - 1)) wr)
    (fun i _ => 5 - (intOf i).toNat)
  case atStart => exact ⟨0, Nat.zero_le _, rfl, h1⟩
  case round =>
    obtain ⟨k, hk, rfl, hJs⟩ := hrel
    obtain rfl | ⟨j, hj, rfl⟩ | rfl : k = 0 ∨ (∃ j, j < 4 ∧ k = j + 1) ∨ k = 5 := by
      by_cases h0 : k = 0
      · exact .inl h0
      · by_cases h5 : k = 5
        · exact .inr (.inr h5)
        · exact .inr (.inl ⟨k - 1, by omega, by omega⟩)
    · gi_wp2
      refine ⟨fun _ h => (by cases h), ?_⟩
      gi_wp2
      go_roundw
      case rel => exact ⟨1, by omega, rfl, hJs⟩
      case measure => simp [intOf]
    · obtain ⟨fn, tmps, assign, body, hy, hR⟩ := hY _ (typ j) wr hJs (by rw [upto_length]; omega)
      obtain rfl | rfl | rfl | rfl : j = 0 ∨ j = 1 ∨ j = 2 ∨ j = 3 := by omega
      · replace hy : (Instr.yield l #[.int .i64 1, .string ⟨#[98, 111, 111, 108]⟩]).run Tryz.prog wr = _ := hy
        gi_wp2_with fail
        refine hR.mono ?_
        rintro e W3 (⟨rfl, hJ3, -⟩ | ⟨rfl, hJx3⟩)
        · gi_wp2
          go_roundw
          case rel => exact ⟨2, by omega, rfl, by rw [upto_succ]; exact hJ3⟩
          case measure => simp [intOf]
        · gi_wp2
          rw [Exit.noGoto_normal]
          go_end0
          exact ⟨⟨_, rfl⟩, .inr ⟨_, ⟨1, by omega, (upto_succ _ _).symm⟩, hJx3⟩⟩
      · replace hy : (Instr.yield l #[.int .i64 2, .string ⟨#[105, 110, 116]⟩]).run Tryz.prog wr = _ := hy
        gi_wp2_with fail
        refine hR.mono ?_
        rintro e W3 (⟨rfl, hJ3, -⟩ | ⟨rfl, hJx3⟩)
        · gi_wp2
          go_roundw
          case rel => exact ⟨3, by omega, rfl, by rw [upto_succ]; exact hJ3⟩
          case measure => simp [intOf]
        · gi_wp2
          rw [Exit.noGoto_normal]
          go_end0
          exact ⟨⟨_, rfl⟩, .inr ⟨_, ⟨2, by omega, (upto_succ _ _).symm⟩, hJx3⟩⟩
      · replace hy : (Instr.yield l #[.int .i64 3, .string ⟨#[116, 101, 120, 116]⟩]).run Tryz.prog wr = _ := hy
        gi_wp2_with fail
        refine hR.mono ?_
        rintro e W3 (⟨rfl, hJ3, -⟩ | ⟨rfl, hJx3⟩)
        · gi_wp2
          go_roundw
          case rel => exact ⟨4, by omega, rfl, by rw [upto_succ]; exact hJ3⟩
          case measure => simp [intOf]
        · gi_wp2
          rw [Exit.noGoto_normal]
          go_end0
          exact ⟨⟨_, rfl⟩, .inr ⟨_, ⟨3, by omega, (upto_succ _ _).symm⟩, hJx3⟩⟩
      · replace hy : (Instr.yield l #[.int .i64 4, .string ⟨#[98, 108, 111, 98]⟩]).run Tryz.prog wr = _ := hy
        gi_wp2_with fail
        refine hR.mono ?_
        rintro e W3 (⟨rfl, hJ3, -⟩ | ⟨rfl, hJx3⟩)
        · gi_wp2
          go_roundw
          case rel => exact ⟨5, by omega, rfl, by rw [upto_succ]; exact hJ3⟩
          case measure => simp [intOf]
        · gi_wp2
          rw [Exit.noGoto_normal]
          go_end0
          exact ⟨⟨_, rfl⟩, .inr ⟨_, ⟨4, by omega, (upto_succ _ _).symm⟩, hJx3⟩⟩
    · gi_wp2
      rw [Exit.noGoto_normal]
      go_end0
      exact ⟨⟨_, rfl⟩, .inl ⟨_, rfl, hJs⟩⟩

theorem types_stops (n : Nat) (hn : 1 ≤ n) (w : World) : SeqStopsK Fence.wide n Tryz.prog 53 #[] encT (fun _ _ => True) (fun ys => ys = upto typ 4) (fun pre => ∃ k, k ≤ 4 ∧ pre = upto typ k) 4 w :=
  fun l J Jx W _ hA _ hY h0 => Types1_in n hn l J Jx (fun pre A o h => hA pre A _ none h (World.grownBy_alloc A o none) (fun r e => by cases e)) hY W h0

end Go.Proofs.YtpojlnpbadcnaaaGreatDoor
