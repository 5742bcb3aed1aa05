/- slices.Values over expressions. The program's Check. The program's text. The program's Text; the chapter's rows. ExprReads: the walk. -/
import Derived.Test.YtepkfkfedmbmnaaGreatDoorMX
import Derived.Test.YtepkfkfedmbmnaaGreatDoorMQ
import Derived.Test.YtepkfkfedmbmnaaGreatDoorMN
import Derived.Test.YtepkfkfedmbmnaaGreatDoorMT2
import Derived.Test.YtepkfkfedmbmnaaGreatDoorMY
import Derived.Test.YtepkfkfedmbmnaaGreatDoorX4
namespace Go.Proofs.YtepkfkfedmbmnaaGreatDoor
open Go.RowKit Go.Shelf

attribute [local go_sem] Oper.semAt_some

/-- An expression and where its arguments' row lies. -/
abbrev QE := Ex × Option Addr × Nat
abbrev QE.sv (q : QE) : Value := .slice q.2.1 q.1.args.length q.2.2
abbrev QE.v (q : QE) : Value := EV q.1.k q.1.v q.1.t q.1.n q.1.o q.sv
def qz : QE := (zeroE, none, 0)
/-- A row of expressions below n₀. -/
def ExsL (n₀ : Nat) (W : World) (sv : Value) (zs : List QE) : Prop := ∃ a cap, sv = .slice a zs.length cap ∧ ∀ j, j < zs.length → ∃ b off, a = some ⟨b, off, none⟩ ∧ b < n₀ ∧ At8 W b (off + j * 8) (zs[j]?.getD qz).1 (zs[j]?.getD qz).sv
theorem At8.below {n₀ : Nat} {A B : World} (h : Below n₀ A B) {b o : Nat} (hb : b < n₀) {x : Ex} {sv : Value} (k : At8 A b o x sv) : At8 B b o x sv := k.keep (h.block b hb)
theorem ExsL.below {n₀ : Nat} {A B : World} (h : Below n₀ A B) {sv : Value} {zs : List QE} (k : ExsL n₀ A sv zs) : ExsL n₀ B sv zs := by
  obtain ⟨a, cap, e, hc⟩ := k
  refine ⟨a, cap, e, fun j hj => ?_⟩
  obtain ⟨b, off, e2, hb, h8⟩ := hc j hj
  exact ⟨b, off, e2, hb, h8.below h hb⟩
theorem exsL_of {W : World} {sv : Value} {l : List Ex} (h : ReadsL W sv l) : ∃ zs : List QE, zs.map (·.1) = l ∧ ExsL W.heap.size W sv zs ∧ ∀ q ∈ zs, ReadsL W q.sv q.1.args := by
  cases h with
  | mk a cap l s h1 h2 =>
    have hs : ∀ j, ∃ p : Option Addr × Nat, ∀ x, l[j]? = some x → s j = .slice p.1 x.args.length p.2 := fun j => by
      cases hx : l[j]? with
      | none => exact ⟨(none, 0), fun x h => by cases h⟩
      | some x =>
        obtain ⟨a', c', e, -⟩ := (h2 j x hx).shape
        exact ⟨(a', c'), fun y hy => by injection hy with hy; subst hy; exact e⟩
    obtain ⟨F, hF⟩ := Classical.axiomOfChoice hs
    have hg : ∀ j, j < l.length → (((List.range l.length).map fun j => ((l[j]?.getD zeroE, F j) : QE))[j]?.getD qz) = ((l[j]?.getD zeroE, F j) : QE) := fun j hj => by simp [hj]
    refine ⟨(List.range l.length).map fun j => (l[j]?.getD zeroE, F j), ?_, ⟨a, cap, by simp, fun j hj => ?_⟩, fun q hq => ?_⟩
    · apply List.ext_getElem
      · simp
      · intro i h1 h2
        have : i < l.length := h2
        simp [this]
    · have hj' : j < l.length := by simpa using hj
      rw [hg j hj']
      have hx : l[j]? = some l[j] := List.getElem?_eq_getElem hj'
      obtain ⟨b, off, e, h8⟩ := h1 j _ hx
      have hsj := hF j _ hx
      refine ⟨b, off, e, by have := World.block_lt_of_cell? _ _ h8.1; simpa using this, ?_⟩
      rw [hx, Option.getD_some]
      rw [hsj] at h8
      exact h8
    · obtain ⟨j, hj, rfl⟩ := List.mem_map.1 hq
      have hj' : j < l.length := by simpa using hj
      have hx : l[j]? = some l[j] := List.getElem?_eq_getElem hj'
      have h := h2 j _ hx
      rw [hF j _ hx] at h
      rw [hx, Option.getD_some]
      exact h
theorem upto_range (k : Nat) : upto (fun j => j) k = List.range k := by simp [upto]
theorem range_prefix {k n : Nat} (h : k ≤ n) : List.range k <+: List.range n := by
  refine ⟨(List.range n).drop k, ?_⟩
  have : List.range k = (List.range n).take k := by
    apply List.ext_getElem
    · simp [h]
    · intro i h1 h2
      simp
  rw [this, List.take_append_drop]

--BEGIN1
set_option maxRecDepth 100000 in
set_option maxHeartbeats 2000000 in
theorem valuesE1_in (F : Fence) (n : Nat) (h7 : F.fn 77) (hro : F.round = none) (hn : 1 ≤ n) (l Bs n₀ b off len cap : Nat) (zs : List QE) (hreach : len ≤ 1000000) (hb : 0 < len → b < n₀) (J Jx : List Nat → World → Prop) (hJ : ∀ pre W o, J pre W → J pre (W.alloc o))
    (hY : ∀ pre x W, J pre W → pre.length < len → YieldAt F (n - 1) Tryz.prog l #[(zs[x]?.getD qz).v] W fun e W' =>
      (e = .returned (.bool true) ∧ J (pre ++ [x]) W' ∧ Below n₀ W W') ∨ (e = .returned (.bool false) ∧ Jx (pre ++ [x]) W'))
    (W : World) (hn₀ : n₀ ≤ W.heap.size) (hBs : W.cell? ⟨Bs, 0, none⟩ = some (.slice (some ⟨b, off, none⟩) len cap)) (hc : ∀ j, j < len → At8 W b (off + j * 8) (zs[j]?.getD qz).1 (zs[j]?.getD qz).sv) (h0 : J [] W) :
    CallsIn F n Tryz.prog 77 #[.func (.yield l) #[] #[], .pointer (some ⟨Bs, 0, none⟩)] W fun e W' => (∃ v, e = .returned v) ∧
      ((∃ ys, ys = upto (fun j => j) len ∧ J ys W') ∨ (∃ pre, (∃ k, k ≤ len ∧ pre = upto (fun j => j) k) ∧ Jx pre W')) := by
  refine callsIn_of_wp Tryz.func77 rfl h7 ?_ hro
  simp only [Tryz.ntmps77, List.size_toArray, List.length_cons, List.length_nil, Nat.reduceAdd, Nat.reduceSub, Array.replicate_succ, Array.replicate_zero, List.push_toArray, List.append_toArray, List.nil_append, List.cons_append]
  gi_wp2
  gi_loopw [7] (fun i wr => ∃ k : Nat, k ≤ len ∧ i = .int .i64 k ∧ J (upto (fun j => j) k) wr ∧ Hid (Below n₀ W wr))
    (fun i _ => len - (intOf i).toNat)
  case atStart => exact ⟨0, Nat.zero_le _, rfl, h0, Below.refl _ _⟩
  case round =>
    obtain ⟨k, hk, rfl, hJs, HN⟩ := hrel
    by_cases hlt : k < len
    · have HY := Lib.hid (fun o => hY _ k (wr.alloc o) (hJ _ _ _ hJs) (by rw [upto_length]; exact hlt))
      have hzw := HN.out.size
      obtain ⟨e0, e1, e2, e3, e4, e5, e6, e7⟩ := (hc k hlt).below HN.out (hb (by omega))
      generalize hz : zs[k]?.getD qz = z at *
      have HZ := Lib.hid hz
      clear hz
      obtain ⟨⟨zk, ⟨z1, z2, z3⟩, zt, zn, zo, za⟩, ad, ca⟩ := z
      simp only [Ex.k, Ex.v, Ex.t, Ex.n, Ex.o] at e0 e1 e2 e3 e4 e5 e6 e7
      dsimp only [QE.sv, Ex.args] at e7
      obtain ⟨fn, tmps, assign, body, hy, hR⟩ := HY.out (.cells #[.int .i64 zk, .int .i64 z1, .int .i64 z2, S z3, S zt, S zn, .int .i64 zo, .slice ad za.length ca] 30)
      dsimp only [QE.v, QE.sv, Ex.k, Ex.v, Ex.t, Ex.n, Ex.o, Ex.args] at hy
      gi_wp2
      refine hR.mono ?_
      rintro e W3 (⟨rfl, hJ3, hk3⟩ | ⟨rfl, hJx3⟩)
      · have HK3 := Lib.hid hk3
        clear hk3
        gi_wp2
        go_roundw
        case rel => exact ⟨k + 1, by omega, by simp, by rw [upto_succ]; exact hJ3, HN.out.trans (((Below.refl _ wr).alloc (by omega) _).trans HK3.out)⟩
        case measure => simp [intOf]; omega
      · gi_wp2
        refine bodyPost_ret (results_none rfl _ _ _) rfl ?_
        exact ⟨⟨_, rfl⟩, .inr ⟨_, ⟨k + 1, by omega, by rw [upto_succ]⟩, hJx3⟩⟩
    · obtain rfl : k = len := by omega
      gi_wp2
      go_end0
      exact ⟨⟨_, rfl⟩, .inl ⟨_, rfl, hJs⟩⟩

set_option maxRecDepth 100000 in
set_option maxHeartbeats 1000000 in
theorem valuesE1_nil_in (a : Option Addr) (cap : Nat) (F : Fence) (n : Nat) (h7 : F.fn 77) (hro : F.round = none) (l Bs : Nat) (J : List Nat → World → Prop) (W : World) (hBs : W.cell? ⟨Bs, 0, none⟩ = some (.slice a 0 cap)) (h0 : J [] W) :
    CallsIn F n Tryz.prog 77 #[.func (.yield l) #[] #[], .pointer (some ⟨Bs, 0, none⟩)] W fun e W' => (∃ v, e = .returned v) ∧ J [] W' := by
  refine callsIn_of_wp Tryz.func77 rfl h7 ?_ hro
  simp only [Tryz.ntmps77, List.size_toArray, List.length_cons, List.length_nil, Nat.reduceAdd, Nat.reduceSub, Array.replicate_succ, Array.replicate_zero, List.push_toArray, List.append_toArray, List.nil_append, List.cons_append]
  gi_wp2
  gi_loopw [7] (fun i wr => i = .int .i64 0 ∧ J [] wr) (fun _ _ => 0)
  case atStart => exact ⟨rfl, h0⟩
  case round =>
    obtain ⟨rfl, hJs⟩ := hrel
    gi_wp2
    go_end0
    exact ⟨⟨_, rfl⟩, hJs⟩

set_option maxRecDepth 100000 in
set_option maxHeartbeats 1000000 in
theorem valuesE_in (F : Fence) (n : Nat) (h5 : F.fn 49) (hro : F.round = none) (a : Option Addr) (len cap : Nat) (w : World) :
    CallsIn F n Tryz.prog 49 #[.slice a len cap] w fun e w' => e = .returned (.func (.func 77) #[] #[.pointer (some ⟨w.heap.size, 0, none⟩)]) ∧ w' = w.alloc (.cells #[.slice a len cap] 28) := by
  refine callsIn_of_wp Tryz.func49 rfl h5 ?_ hro
  simp only [Tryz.ntmps49, List.size_toArray, List.length_cons, List.length_nil, Nat.reduceAdd, Nat.reduceSub, Array.replicate_succ, Array.replicate_zero, List.push_toArray, List.append_toArray, List.nil_append, List.cons_append]
  gi_wp2
  go_ret
  exact ⟨rfl, rfl⟩

theorem valuesE_stops (F : Fence) (n : Nat) (h7 : F.fn 77) (hro : F.round = none) (hn : 1 ≤ n) (Bs n₀ : Nat) (sv : Value) (zs : List QE) (hreach : zs.length ≤ 1000000) (w : World) (hBs : Bs < w.heap.size) (hn₀ : n₀ ≤ w.heap.size)
    (hc : w.cell? ⟨Bs, 0, none⟩ = some sv) (hI : ExsL n₀ w sv zs) :
    SeqStopsK F n Tryz.prog 77 #[.pointer (some ⟨Bs, 0, none⟩)] (fun x : Nat => #[(zs[x]?.getD qz).v]) (Below n₀) (fun ys => ys = List.range zs.length) (fun pre => pre <+: List.range zs.length) zs.length w := fun l J Jx W hW hJ _ hY h0 => by
  have hc' := (hW.cell (p := ⟨Bs, 0, none⟩) hBs).trans hc
  obtain ⟨a, cap, rfl, hcs⟩ := hI.below (hW.mono hn₀)
  by_cases hz : zs = []
  · subst hz
    exact (valuesE1_nil_in a cap F n h7 hro l Bs J W hc' h0).mono fun e W' ⟨he, hj⟩ => ⟨he, .inl ⟨_, rfl, hj⟩⟩
  · have hpos : 0 < zs.length := by cases zs with | nil => exact absurd rfl hz | cons _ _ => simp
    obtain ⟨b, off, rfl, hb, -⟩ := hcs 0 hpos
    have hcs' : ∀ j, j < zs.length → At8 W b (off + j * 8) (zs[j]?.getD qz).1 (zs[j]?.getD qz).sv := fun j hj => by
      obtain ⟨b', off', e, _, c⟩ := hcs j hj
      injection e with e
      injection e with e1 e2 _
      subst e1
      subst e2
      exact c
    refine (valuesE1_in F n h7 hro hn l Bs n₀ b off zs.length cap zs hreach (fun _ => hb) J Jx (fun pre W1 o h => hJ pre W1 _ none h (World.grownBy_alloc _ _ none) (fun r e => by cases e)) hY W (Nat.le_trans hn₀ hW.size) hc' hcs' h0).mono ?_
    rintro e W' ⟨he, ⟨ys, rfl, hj⟩ | ⟨pre, ⟨k, hk, rfl⟩, hj⟩⟩
    · exact ⟨he, .inl ⟨_, upto_range _, hj⟩⟩
    · exact ⟨he, .inr ⟨_, by rw [upto_range]; exact range_prefix hk, hj⟩⟩
--END1

end Go.Proofs.YtepkfkfedmbmnaaGreatDoor

namespace Go.Proofs.YtepkfkfedmbmnaaGreatDoor
open Go.RowKit Go.Shelf
set_option maxRecDepth 100000
attribute [local go_sem] Oper.semAt_some

/-- All texts in it fit. -/
inductive Lens : Ex → Prop where
  | mk (k : Int) (v : Int × Int × List UInt8) (t n : List UInt8) (o : Int) (args : List Ex) (ht : t.length ≤ 9223372036854775807) (hn : n.length ≤ 9223372036854775807) (ha : ∀ y, y ∈ args → Lens y) : Lens (.mk k v t n o args)
/-- What Check answers. -/
def ckN (x : Ex) : Int := if checkB x = true then 0 else 2
theorem check_mk (k : Int) (v : Int × Int × List UInt8) (t n : List UInt8) (o : Int) (args : List Ex) : checkB (.mk k v t n o args) = (rightF k v t n o args && args.all checkB) := by
  simp only [checkB, checksB_all]
  rfl
theorem qz_check : checkB qz.1 = false := by decide
--BEGIN1
set_option maxHeartbeats 4000000 in
theorem echeck_no {k v1 v2 o : Int} {v3 t n : List UInt8} {a : Option Addr} {args : List Ex} {c : Nat} (hR : rightF k (v1, v2, v3) t n o args = false) (hlt : t.length ≤ 9223372036854775807) (hln : n.length ≤ 9223372036854775807) (w : World) (hG : Glob w) :
    Calls Tryz.prog 26 #[EV k (v1, v2, v3) t n o (.slice a args.length c)] w fun e w' => e = .returned (.int .i64 2) ∧ Bl w w' := by
  have HR : Hid (∀ w, Glob w → Calls Tryz.prog 48 #[EV k (v1, v2, v3) t n o (.slice a args.length c)] w fun e w' => e = .returned (.bool false) ∧ Bl w w') := fun w hG => by
    have h := eright_any k v1 v2 o v3 t n a args c hlt hln w hG
    rw [hR] at h
    exact h
  have HG := Lib.hid hG
  clear hG hR
  generalize args.length = m at *
  have HB0 := Lib.hid (((Bl.refl w).alloc (.cells #[.int .i64 k, .int .i64 v1, .int .i64 v2, S v3, S t, S n, .int .i64 o, .slice a m c] 30)).alloc (.cells #[.int .i64 0] 31))
  have hE0 := heap_new' (w.alloc (.cells #[.int .i64 k, .int .i64 v1, .int .i64 v2, S v3, S t, S n, .int .i64 o, .slice a m c] 30)) (.cells #[.int .i64 0] 31) (k := w.heap.size + 1) (by simp)
  go_enter Tryz.func26, Tryz.ntmps26
  go_wp2_with fail
  refine (HR.out _ (HG.out.bl HB0.out)).mono ?_
  rintro e w1 ⟨rfl, hb1⟩
  have hE1 := (hb1.block _ (by simp)).trans hE0
  have c0 := cells1 hE1
  have z0 := Lib.frozen_of_heap hE1 0
  have HB1 := Lib.hid (HB0.out.call hb1)
  go_wp2
  have q0 := cells1 (x := .int .i64 2) (set1_heap hE1 0 (.int .i64 2))
  exact bodyPost_ret (v := .int .i64 2) (by simp [results, Tryz.results26, go_sem, q0]) rfl ⟨rfl, HB1.out.set (p := ⟨w.heap.size + 1, 0, none⟩) (by show w.heap.size ≤ w.heap.size + 1; omega) _⟩
--END1
theorem ck_leave {W A : World} {D : Nat} {a : Act} {z : Int} (hD : W.heap.size + 2 ≤ D) (ht : a.tmps[2]? = some (.pointer (some ⟨W.heap.size + 1, 0, none⟩))) (hd : a.defers = [{ target := .collected D, args := #[] }])
    (hK : A.heap[D]? = some (.deferred (some []))) (h1 : Boxed A (W.heap.size + 1) 31 (.int .i64 z)) (hB : Below W.heap.size W A) :
    bodyPostM Fence.wide 5 Tryz.prog Tryz.f26 (fun e w' => e = .returned (.int .i64 z) ∧ Bl W w') .ret a A := by
  obtain ⟨tm, df⟩ := a
  simp only at ht hd
  subst hd
  refine ⟨by simp, .inl ⟨_, _, rfl, run_takeDeferred hK, ?_⟩⟩
  have hgp := grownBy_putObj' A D (.deferred none)
  have c := (h1.kept hgp (by simp; omega)).cell
  exact ⟨.int .i64 z, by simp [results, Tryz.results26, go_sem, ht, c], rfl, hB.grown hgp hB.size (fun k e => by cases e; omega)⟩
--BEGIN2
set_option maxHeartbeats 8000000 in
theorem echeck_any : ∀ (n : Nat) (x : Ex), partsE x ≤ n → n ≤ 1000000 → Lens x → ∀ (W : World) (v : Value), ReadsE W x v → Glob W → Calls Tryz.prog 26 #[v] W fun e w' => e = .returned (.int .i64 (ckN x)) ∧ Bl W w'
  | 0, x, h, _, _, _, _, _, _ => by have := parts_pos x; omega
  | N + 1, x, hx, hN, hL, W, v, hv, hG => by
    obtain ⟨sv, rfl, hR⟩ := hv
    obtain ⟨zs, hzs, hE, hRq⟩ := exsL_of hR
    obtain ⟨a, cap, rfl, -⟩ := id hE
    have IH : Hid (∀ (j : Nat) (W' : World), Bl W W' → Calls Tryz.prog 26 #[(zs[j]?.getD qz).v] W' fun e w' => e = .returned (.int .i64 (ckN (zs[j]?.getD qz).1)) ∧ Bl W' w') := fun j W' hb => by
      cases hq : zs[j]? with
      | none =>
        have hz : ckN qz.1 = 2 := by decide
        rw [Option.getD_none, hz]
        exact echeck_no (args := []) (by decide) (by simp [qz, zeroE, Ex.t]) (by simp [qz, zeroE, Ex.n]) W' (hG.bl hb)
      | some q =>
        rw [Option.getD_some]
        have hm := List.mem_of_getElem? hq
        have hma : q.1 ∈ x.args := by rw [← hzs]; exact List.mem_map_of_mem hm
        have hLq : Lens q.1 := by cases hL with | mk _ _ _ _ _ _ _ _ ha => exact ha _ hma
        exact echeck_any N q.1 (by have := parts_arg hma; omega) (by omega) hLq W' _ ⟨_, rfl, (hRq q hm).bl hb⟩ (hG.bl hb)
    obtain ⟨k, ⟨v1, v2, v3⟩, t, n, o, args⟩ := x
    replace hzs : zs.map (·.1) = args := hzs
    have hlen : args.length = zs.length := by rw [← hzs]; simp
    have hfew : zs.length ≤ 1000000 := by have := parts_len (.mk k (v1, v2, v3) t n o args); rw [← hlen]; show args.length ≤ _; have h2 : (Ex.mk k (v1, v2, v3) t n o args).args.length = args.length := rfl; omega
    obtain ⟨hlt, hln⟩ : t.length ≤ 9223372036854775807 ∧ n.length ≤ 9223372036854775807 := by cases hL with | mk _ _ _ _ _ _ h1 h2 _ => exact ⟨h1, h2⟩
    clear hL hR hRq hx
    simp only [Ex.k, Ex.v, Ex.t, Ex.n, Ex.o]
    cases hr : rightF k (v1, v2, v3) t n o args
    · have e : ckN (.mk k (v1, v2, v3) t n o args) = 2 := by unfold ckN; rw [check_mk, hr]; rfl
      rw [e, ← hlen]
      exact echeck_no hr hlt hln W hG
    have HCK : Hid (ckN (.mk k (v1, v2, v3) t n o args) = if zs.all (fun q => checkB q.1) then 0 else 2) := by
      show _ = _
      unfold ckN
      rw [check_mk, hr, Bool.true_and, ← hzs, List.all_map]
      rfl
    obtain ⟨z, HZ⟩ : ∃ z, Hid (ckN (.mk k (v1, v2, v3) t n o args) = z) := ⟨_, rfl⟩
    rw [HZ.out]
    have HR : Hid (∀ w, Glob w → Calls Tryz.prog 48 #[EV k (v1, v2, v3) t n o (.slice a zs.length cap)] w fun e w' => e = .returned (.bool true) ∧ Bl w w') := fun w hG => by
      have h := eright_any k v1 v2 o v3 t n a args cap hlt hln w hG
      rw [hr, hlen] at h
      exact h
    have HG := Lib.hid hG
    have HE := Lib.hid hE
    have HFEW := Lib.hid hfew
    have HB0 := Lib.hid (((Bl.refl W).alloc (.cells #[.int .i64 k, .int .i64 v1, .int .i64 v2, S v3, S t, S n, .int .i64 o, .slice a zs.length cap] 30)).alloc (.cells #[.int .i64 0] 31))
    have hE0 := heap_new' (W.alloc (.cells #[.int .i64 k, .int .i64 v1, .int .i64 v2, S v3, S t, S n, .int .i64 o, .slice a zs.length cap] 30)) (.cells #[.int .i64 0] 31) (k := W.heap.size + 1) (by simp)
    have hX0 := (heap_old (W.alloc (.cells #[.int .i64 k, .int .i64 v1, .int .i64 v2, S v3, S t, S n, .int .i64 o, .slice a zs.length cap] 30)) (.cells #[.int .i64 0] 31) (by simp)).trans (heap_new W _)
    clear hG hE hfew hr hlen hzs hlt hln
    refine (callsIn_wide (n := 5)).1 ?_
    refine callsIn_of_wp_marks Tryz.func26 rfl trivial ?_ rfl
    simp only [Tryz.ntmps26, List.size_toArray, List.length_cons, List.length_nil, Nat.reduceAdd, Nat.reduceSub, Array.replicate_succ, Array.replicate_zero, List.push_toArray, List.append_toArray, List.nil_append, List.cons_append]
    gi_wp2_with fail
    refine ⟨trivial, ?_⟩
    refine (callsIn_wide.2 (HR.out _ (HG.out.bl HB0.out))).mono ?_
    rintro e w1 ⟨rfl, hb1⟩
    have HB1 := Lib.hid (HB0.out.call hb1)
    have HE1 := Lib.hid ((hb1.block _ (by simp)).trans hE0)
    have hX1 := (hb1.block W.heap.size (by simp; omega)).trans hX0
    have hlw := (Array.getElem?_eq_some_iff.1 HE1.out).1
    obtain ⟨⟨e0, e1, e2, e3, e4, e5, e6, e7⟩, -⟩ := eight hX1
    clear hb1 hE0 hX0
    gi_wp2_with fail
    refine ⟨trivial, ?_⟩
    refine (valuesE_in Fence.wide 4 trivial rfl _ _ _ _).mono ?_
    rintro e w' ⟨rfl, rfl⟩
    gi_wp2_with fail
    have bR : Boxed (w1.alloc (.cells #[.slice a zs.length cap] 28)) (W.heap.size + 1) 31 (.int .i64 0) := Boxed.alloc (show Boxed w1 _ _ _ from HE1.out) _
    have bN := Boxed.new w1 28 (.slice a zs.length cap)
    have hB2 : Below W.heap.size W (w1.alloc (.cells #[.slice a zs.length cap] 28)) := HB1.out.alloc _
    have hsz : (w1.alloc (.cells #[.slice a zs.length cap] 28)).heap.size = w1.heap.size + 1 := by simp
    clear e0 e1 e2 e3 e4 e5 e6 e7 hX1 HE1
    obtain ⟨W0, hW0⟩ : ∃ W0, w1.alloc (.cells #[.slice a zs.length cap] 28) = W0 := ⟨_, rfl⟩
    rw [hW0] at bR bN hB2 hsz ⊢
    clear hW0
    refine wpIn_rangeFunc_ownH rfl (by omega) (gf := 77) (lb := #[.pointer (some ⟨w1.heap.size, 0, none⟩)]) rfl trivial (enters_of Tryz.func77 (by kernel_rfl) rfl)
      (valuesE_stops Fence.wide (5 - 1) trivial rfl (by omega) w1.heap.size W.heap.size _ zs HFEW.out W0 (by omega) (by omega) bN.cell (HE.out.below hB2)) belowK_t (belowK_b (by omega)) (Below.refl _ _) (fun _ => rfl)
      (fun pre A => Boxed A (W.heap.size + 1) 31 (.int .i64 0) ∧ Below W.heap.size W A ∧ ∀ j ∈ pre, checkB (zs[j]?.getD qz).1 = true)
      (fun c pre A => c = .ret ∧ Boxed A (W.heap.size + 1) 31 (.int .i64 2) ∧ Below W.heap.size W A ∧ ∃ j ∈ pre, checkB (zs[j]?.getD qz).1 = false)
      (fun s A B row hs hg hr => ⟨boxed_own (W.heap.size + 1) 31 (fun (_ : Unit) => Value.int .i64 0) () A B row hs.1 hg (fun r e => (hr r e).2), ownFrom_below (β := Unit) (Nat.le_refl _) (by omega) () A B row hs.2.1 hg hr, hs.2.2⟩)
      (fun c s A B row hs hg hr => ⟨hs.1, boxed_own (W.heap.size + 1) 31 (fun (_ : Unit) => Value.int .i64 2) () A B row hs.2.1 hg (fun r e => (hr r e).2), ownFrom_below (β := Unit) (Nat.le_refl _) (by omega) () A B row hs.2.2.1 hg hr, hs.2.2.2⟩)
      ⟨bR, hB2, fun j hj => by cases hj⟩
      (fun j a' A => ∃ Bx, A.heap[Bx]? = some (.cells #[.int .i64 (zs[j]?.getD qz).1.k, .int .i64 (zs[j]?.getD qz).1.v.1, .int .i64 (zs[j]?.getD qz).1.v.2.1, S (zs[j]?.getD qz).1.v.2.2, S (zs[j]?.getD qz).1.t, S (zs[j]?.getD qz).1.n, .int .i64 (zs[j]?.getD qz).1.o, (zs[j]?.getD qz).sv] 30 (0, 0)) ∧
        a' = { tmps := #[EV k (v1, v2, v3) t n o (.slice a zs.length cap), .pointer (some ⟨W.heap.size, 0, none⟩), .pointer (some ⟨W.heap.size + 1, 0, none⟩), .pointer (some ⟨Bx, 0, none⟩), undef, EV k (v1, v2, v3) t n o (.slice a zs.length cap), .bool true, .bool false, .pointer (some ⟨W.heap.size, 7, none⟩), .slice a zs.length cap, .func (.func 77) #[] #[.pointer (some ⟨w1.heap.size, 0, none⟩)], (zs[j]?.getD qz).v, undef, undef, undef, undef, undef], defers := [] })
      (fun j a' _ A B row hs hg hr => by
        obtain ⟨Bx, h1, h2⟩ := hs
        refine ⟨Bx, (hg.block Bx (Array.getElem?_eq_some_iff.1 h1).1 (fun e => ?_)).trans h1, h2⟩
        obtain ⟨-, o, ho, hc⟩ := hr Bx e.symm
        rw [h1] at ho
        cases ho
        cases hc)
      ?assign ?body ?done ?stop
    case assign =>
      rintro l pre j A K ⟨hb, hB, hp⟩ hK
      revert hK
      generalize zs[j]?.getD qz = q
      obtain ⟨⟨xk, ⟨x1, x2, x3⟩, xt, xn, xo, xa⟩, ad, ca⟩ := q
      dsimp only [QE.v, QE.sv, Ex.k, Ex.v, Ex.t, Ex.n, Ex.o, Ex.args]
      intro hK
      gi_wp2
      exact hK _ _ ((KeepsOthers.alloc _ _).from _) ((Below.refl _ A).alloc hB.size _) ⟨hb.alloc _, hB.alloc hB.size _, hp⟩ ⟨A.heap.size, heap_new A _, rfl⟩
    case body =>
      rintro l pre j a' A hl ⟨r, hr⟩ ⟨hb, hB, hp⟩ ⟨Bx, hX, rfl⟩ _
      have HI := Lib.hid (IH.out j A hB)
      have HPj : Hid (ckN (zs[j]?.getD qz).1 = if checkB (zs[j]?.getD qz).1 = true then 0 else 2) := rfl
      have HN1 : Hid (checkB (zs[j]?.getD qz).1 = true → ∀ i ∈ pre ++ [j], checkB (zs[i]?.getD qz).1 = true) := fun h i hi => by
        rcases List.mem_append.1 hi with hi | hi
        · exact hp i hi
        · obtain rfl := List.mem_singleton.1 hi
          exact h
      have HN2 : Hid (checkB (zs[j]?.getD qz).1 = false → ∃ i ∈ pre ++ [j], checkB (zs[i]?.getD qz).1 = false) := fun h => ⟨j, by simp, h⟩
      clear hp
      generalize zs[j]?.getD qz = q at *
      obtain ⟨⟨xk, ⟨x1, x2, x3⟩, xt, xn, xo, xa⟩, ad, ca⟩ := q
      dsimp only [QE.v, QE.sv, Ex.k, Ex.v, Ex.t, Ex.n, Ex.o, Ex.args] at hX HI ⊢
      obtain ⟨⟨e0, e1, e2, e3, e4, e5, e6, e7⟩, -⟩ := eight hX
      clear hX
      have hlr := hb.lt
      cases hc : checkB (.mk xk (x1, x2, x3) xt xn xo xa)
      · have HC := Lib.hid (show ckN (.mk xk (x1, x2, x3) xt xn xo xa) = 2 from by unfold ckN; rw [hc]; rfl)
        have HN := Lib.hid (HN2.out hc)
        clear hc HN1 HN2 HPj
        gi_wp2_with fail
        refine ⟨trivial, ?_⟩
        refine (CallsIn.inRound l (callsIn_wide.2 HI.out)).mono ?_
        rintro e A2 ⟨rfl, hb2⟩
        rw [HC.out]
        have hbx2 : Boxed A2 (W.heap.size + 1) 31 (.int .i64 0) := (hb2.block _ hlr).trans hb
        have c0 := hbx2.cell
        have z0 := Lib.frozen_of_heap (show A2.heap[W.heap.size + 1]? = _ from hbx2) 0
        have HH := Lib.hid (And.intro hb2 (And.intro hB hbx2))
        clear hb2 hB hbx2 hb e0 e1 e2 e3 e4 e5 e6 e7
        gi_wp2
        exact ⟨((KeepsOthers.of_bl HH.out.1).trans (KeepsOthers.setCell _ _ _)).from _, rfl, HH.out.2.2.set _, (HH.out.2.1.trans (HH.out.1.mono HH.out.2.1.size)).setCell (p := ⟨W.heap.size + 1, 0, none⟩) (by show W.heap.size ≤ W.heap.size + 1; omega) _, HN.out⟩
      · have HC := Lib.hid (show ckN (.mk xk (x1, x2, x3) xt xn xo xa) = 0 from by unfold ckN; rw [hc]; rfl)
        have HN := Lib.hid (HN1.out hc)
        clear hc HN1 HN2 HPj
        gi_wp2_with fail
        refine ⟨trivial, ?_⟩
        refine (CallsIn.inRound l (callsIn_wide.2 HI.out)).mono ?_
        rintro e A2 ⟨rfl, hb2⟩
        rw [HC.out]
        have HH := Lib.hid (And.intro hb2 (And.intro hB (show Boxed A2 (W.heap.size + 1) 31 (.int .i64 0) from (hb2.block _ hlr).trans hb)))
        clear hb2 hB hb e0 e1 e2 e3 e4 e5 e6 e7
        gi_wp2
        exact ⟨(KeepsOthers.of_bl HH.out.1).from _, HH.out.1.mono HH.out.2.1.size, HH.out.2.2, HH.out.2.1.trans (HH.out.1.mono HH.out.2.1.size), HN.out⟩
    case done =>
      rintro D ys A hD rfl ⟨hb, hB, hp⟩ hK
      have HC := Lib.hid (show ckN (.mk k (v1, v2, v3) t n o args) = 0 from by
        rw [HCK.out, if_pos]
        rw [List.all_eq_true]
        intro q hq
        obtain ⟨i, hi, rfl⟩ := List.getElem_of_mem hq
        have := hp i (by simpa using hi)
        rw [List.getElem?_eq_getElem hi] at this
        exact this)
      have HZ0 := Lib.hid (show z = 0 from HZ.out.symm.trans HC.out)
      have c0 := hb.cell
      have z0 := Lib.frozen_of_heap (show A.heap[W.heap.size + 1]? = _ from hb) 0
      have hDD : W.heap.size + 2 ≤ D := by omega
      have HH := Lib.hid (And.intro ((heap_set_other A ⟨W.heap.size + 1, 0, none⟩ (.int .i64 0) D (by show D ≠ W.heap.size + 1; omega)).trans hK) (And.intro hB (hb.set (.int .i64 0))))
      clear hb hB hK hp
      gi_wp2
      exact ck_leave hDD rfl rfl HH.out.1 (by rw [HZ0.out]; exact HH.out.2.2) (HH.out.2.1.setCell (p := ⟨W.heap.size + 1, 0, none⟩) (by show W.heap.size ≤ W.heap.size + 1; omega) _)
    case stop =>
      rintro D c pre A hD hpre ⟨rfl, hb, hB, hp⟩ hK
      have HC := Lib.hid (show ckN (.mk k (v1, v2, v3) t n o args) = 2 from by
        obtain ⟨i, hi, hf⟩ := hp
        have hi2 : i < zs.length := by
          obtain ⟨r, hr⟩ := hpre
          have : i ∈ List.range zs.length := by rw [← hr]; exact List.mem_append_left _ hi
          simpa using this
        rw [HCK.out, if_neg]
        intro hall
        rw [List.all_eq_true] at hall
        have := hall _ (List.getElem_mem hi2)
        rw [List.getElem?_eq_getElem hi2, Option.getD_some] at hf
        rw [hf] at this
        cases this)
      have HZ0 := Lib.hid (show z = 2 from HZ.out.symm.trans HC.out)
      have HH := Lib.hid (And.intro hK (And.intro hB hb))
      clear hb hB hK hp
      gi_wp2
      exact ck_leave (by omega) rfl rfl HH.out.1 (by rw [HZ0.out]; exact HH.out.2.2) HH.out.2.1
--END2

end Go.Proofs.YtepkfkfedmbmnaaGreatDoor

namespace Go.Proofs.YtepkfkfedmbmnaaGreatDoor
open Go.RowKit
set_option maxRecDepth 100000

theorem infoStr_parts : ∃ i, Tryz.prog.info? 9 = some i ∧ i.zero = some (.string ⟨#[]⟩) ∧ i.size = 1 ∧ i.bytes = 16 := by
  have h : (Tryz.prog.info? 9).map (fun i => (i.zero, i.size, i.bytes)) = some (some (.string ⟨#[]⟩), 1, 16) := by kernel_rfl
  cases hi : Tryz.prog.info? 9 with
  | none => rw [hi] at h; cases h
  | some i =>
    rw [hi] at h
    injection h with h
    injection h with h1 h2
    injection h2 with h2 h3
    exact ⟨i, rfl, h1, h2, h3⟩
theorem own_strs {W : World} {base : Nat} {v : Value} {l : List (List UInt8)} (h : W.ownsRow base 9 1 v l.length (l.map fun s => S s)) : (l = [] ∧ ∃ a' d', v = .slice a' 0 d') ∨ StrsC W v l := by
  by_cases h0 : l = []
  · subst h0
    left
    rcases h.2 with ⟨e, _⟩ | ⟨g, cap, cur, hv, _⟩
    · exact ⟨rfl, _, _, e⟩
    · exact ⟨rfl, _, _, hv⟩
  · right
    have hpos : 0 < l.length := List.length_pos_iff.2 h0
    have hcell := fun g cap (e : v = .slice (some ⟨g, 0, none⟩) l.length cap) (j : Nat) (hj : j < l.length) => (show W.cell? ⟨g, j, none⟩ = some (S l[j]) from by
      subst e
      have hc := h.cellAt j (by omega)
      rw [hc]
      simp [hj])
    have hcap : ∀ g cap, v = .slice (some ⟨g, 0, none⟩) l.length cap → l.length ≤ cap := fun g cap e => by subst e; exact own_cap h
    rcases h.2 with ⟨e, hz⟩ | ⟨g, cap, cur, hv, _, hh, _⟩
    · omega
    · exact ⟨g, cap, hv, hcap g cap hv, (Array.getElem?_eq_some_iff.1 hh).1, fun j hj => hcell g cap hv j hj⟩
theorem take_snoc {α : Type} (l : List α) {j : Nat} (hj : j < l.length) : l.take (j + 1) = l.take j ++ [l[j]] := by
  rw [List.take_add_one, List.getElem?_eq_getElem hj]
  rfl
--BEGIN1
set_option maxHeartbeats 8000000 in
theorem etext_any : ∀ (n : Nat) (x : Ex), partsE x ≤ n → n ≤ 1000000 → checkB x = true → Fits x → (textE x).length ≤ 100000000 → ∀ (W : World) (v : Value), ReadsE W x v → Glob W → Calls Tryz.prog 42 #[v] W fun e w' => e = .returned (S (textE x)) ∧ Bl W w'
  | 0, x, h, _, _, _, _, _, _, _, _ => by have := parts_pos x; omega
  | N + 1, x, hx, hN, hC, hF, hl, W, v, hv, hG => by
    obtain ⟨sv, rfl, hR⟩ := hv
    obtain ⟨a, cap, rfl, hc⟩ := hR.shape
    have hr := checkB_right hC
    have IH : Hid (∀ (y : Ex), y ∈ x.args → ∀ (W' : World) (v : Value), Bl W W' → ReadsE W' y v → Calls Tryz.prog 42 #[v] W' fun e w' => e = .returned (S (textE y)) ∧ Bl W' w') := fun y hy W' v hb hv =>
      etext_any N y (by have := parts_arg hy; omega) (by omega) (checkB_args hC hy) (by cases hF with | mk _ _ _ _ _ _ _ ha => exact ha y hy) (by have := text_arg_len hC hy; omega) W' v hv (hG.bl hb)
    have hlen : x.args.length ≤ 1000000 := by have := parts_len x; omega
    have HG := Lib.hid hG
    have hI : I64 x.v.2.1 := by cases hF with | mk _ _ _ _ _ _ h _ => exact h
    clear hR hF hx hG
    obtain ⟨k, ⟨v1, v2, v3⟩, t, nm, o, args⟩ := x
    have HC : Hid (∀ (j : Nat) (h : j < args.length), ∃ b off s, a = some ⟨b, off, none⟩ ∧ At8 W b (off + j * 8) args[j] s ∧ ReadsL W s args[j].args) := Lib.hid hc
    replace hlen : args.length ≤ 1000000 := hlen
    replace hI : I64 v2 := hI
    clear hc
    show Calls Tryz.prog 42 #[EV k (v1, v2, v3) t nm o (.slice a args.length cap)] W fun e w' => e = .returned (S (textE (.mk k (v1, v2, v3) t nm o args))) ∧ Bl W w'
    have hk : k = 1 ∨ k = 2 ∨ k = 3 ∨ k = 4 ∨ k = 5 := right_kind (show rightF k (v1, v2, v3) t nm o args = true from hr)
    have HT : Hid (textE (.mk k (v1, v2, v3) t nm o args) = tellT k (v1, v2, v3) t nm o (args.map textE)) := by show _ = _; simp only [textE, textsE_map]
    rw [HT.out] at hl ⊢
    have HE : Hid (∀ (w : World) (sv : Value), Glob w → ((args.map textE = [] ∧ ∃ a' d', sv = .slice a' 0 d') ∨ StrsC w sv (args.map textE)) → Calls Tryz.prog (toldF k) #[EV k (v1, v2, v3) t nm o (.slice a args.length cap), sv] w fun e w' => e = .returned (S (tellT k (v1, v2, v3) t nm o (args.map textE))) ∧ Bl w w') := fun w sv hG hS =>
      etells_any (args := args) (show rightF k (v1, v2, v3) t nm o args = true from hr) hI (by simp) (by simp; omega) hl w hG hS
    obtain ⟨u, hu⟩ : ∃ u, Hid (tellT k (v1, v2, v3) t nm o (args.map textE) = u) := ⟨_, rfl⟩
    rw [hu.out] at HE ⊢
    have hen := enters_toldF k
    have hX0 := heap_new W (.cells #[.int .i64 k, .int .i64 v1, .int .i64 v2, S v3, S t, S nm, .int .i64 o, .slice a args.length cap] 30)
    have HB0 := Lib.hid ((Bl.refl W).alloc (.cells #[.int .i64 k, .int .i64 v1, .int .i64 v2, S v3, S t, S nm, .int .i64 o, .slice a args.length cap] 30))
    have HX0 := Lib.hid hX0
    obtain ⟨i0, hi, hz0, hz1, hz2⟩ := infoStr_parts
    have HK := Lib.hid hk
    clear hl hr hC hI hX0 hk
    go_enter Tryz.func42, Tryz.ntmps42
    go_wp2_with fail
    go_loopw [3, 9] (fun sv i wr => ∃ (j : Nat) (v0 : Value), sv = v0 ∧ j ≤ args.length ∧ i = .int .i64 (j : Int) ∧ Hid (wr.ownsRow (W.heap.size + 1) 9 1 v0 j (((args.map textE).take j).map fun s => S s)) ∧ Hid (Bl W wr) ∧
      Hid (wr.heap[W.heap.size]? = some (.cells #[.int .i64 k, .int .i64 v1, .int .i64 v2, S v3, S t, S nm, .int .i64 o, .slice a args.length cap] 30 (0, 0)))) (fun _ i _ => args.length - (intOf i).toNat)
    case atStart => exact ⟨0, _, rfl, Nat.zero_le _, rfl, World.ownsRow_nil _ _ _ _, HB0.out, HX0.out⟩
    case round =>
      obtain ⟨j, v0, rfl, hj, rfl, HO, HB, HX⟩ := hrel
      have hzr := (Array.getElem?_eq_some_iff.1 HX.out).1
      by_cases hlt : j < args.length
      · obtain ⟨b, off, s, rfl, h8, hr⟩ := HC.out j hlt
        have hmem := List.getElem_mem hlt
        obtain ⟨asl, cs, rfl, -⟩ := hr.shape
        have HR := Lib.hid (hr.bl HB.out)
        have HSN := Lib.hid (show (args.map textE).take (j + 1) = (args.map textE).take j ++ [textE args[j]] from by
          rw [take_snoc _ (by simpa using hlt)]
          simp)
        have HM := Lib.hid hmem
        obtain ⟨e0, e1, e2, e3, e4, e5, e6, e7⟩ := At8.keep h8 (HB.out.block b (by have := World.block_lt_of_cell? _ _ h8.1; simpa using this))
        clear h8 hr hmem
        generalize args[j] = y at *
        obtain ⟨k', ⟨v1', v2', v3'⟩, t', nm', o', args'⟩ := y
        simp only [Ex.k, Ex.v, Ex.t, Ex.n, Ex.o, Ex.args] at e0 e1 e2 e3 e4 e5 e6 e7 HR
        have hlt' : (j : Int) < (args.length : Int) := by omega
        go_wp2_with fail
        have hRE : ReadsE (wr.alloc (.cells #[.int .i64 k', .int .i64 v1', .int .i64 v2', S v3', S t', S nm', .int .i64 o', .slice asl args'.length cs] 30)) (.mk k' (v1', v2', v3') t' nm' o' args') (EV k' (v1', v2', v3') t' nm' o' (.slice asl args'.length cs)) := ⟨_, rfl, HR.out.bl ((Bl.refl wr).alloc _)⟩
        refine (IH.out _ HM.out _ _ (HB.out.alloc _) hRE).mono ?_
        rintro e w1 ⟨rfl, hb1⟩
        have HB1 := Lib.hid (((Bl.refl wr).alloc _).call hb1)
        have HO1 := Lib.hid (ownsRow_bl HB1.out HO.out)
        have HX1 := Lib.hid ((HB1.out.block _ hzr).trans HX.out)
        have hz1' := (Array.getElem?_eq_some_iff.1 HX1.out).1
        obtain ⟨ty, hty⟩ : ∃ ty, Hid (textE (.mk k' (v1', v2', v3') t' nm' o' args') = ty) := ⟨_, rfl⟩
        rw [hty.out]
        clear hb1 hRE e0 e1 e2 e3 e4 e5 e6 e7
        go_wp2_with (at_builtin; refine wpList_append_own _ rfl _ _ 93 rfl (W.heap.size + 1) 9 i0 (.string ⟨#[]⟩) 1 16 Tryz.underlying93 hi hz0 hz1 hz2 rfl (by decide) _ _ _ rfl (ownsRow_bl ((Bl.refl w1).alloc _) HO1.out) ⟨w1.heap.size, 0, none⟩ 1 1 [S ty] rfl rfl ?c1 ?c2 ?c3 ?c4 ?c5 ?_)
        case c1 =>
          intro i u hi
          match i, hi with
          | 0, hi => simp at hi; subst hi; simp [Addr.add]
        case c2 => intro u hu; simp at hu; subst hu; rfl
        case c3 => unfold maxLen; omega
        case c4 => omega
        case c5 => simp; omega
        intro v' w2 hown2 hg2 _
        have hlow := HO1.out.lt
        have HB2 := Lib.hid (Below.grown ((HB.out.call HB1.out).alloc _) hg2 (by have := (HB.out.call HB1.out).size; simp; omega) (fun i hi => by have := (hlow i hi).1; omega))
        have HX2 := Lib.hid ((hg2.block W.heap.size (by simp; omega) (fun e => by have := (hlow _ e.symm).1; omega)).trans ((heap_old _ _ hz1').trans HX1.out))
        have HO2 := Lib.hid hown2
        clear hown2 hg2 hlow
        go_wp2
        go_roundw
        case rel => exact ⟨j + 1, _, rfl, by omega, by go_num, by rw [HSN.out, hty.out, List.map_append, List.map_take, List.map_map]; exact HO2.out, HB2.out, HX2.out⟩
        case measure => simp [intOf]; omega
      · obtain rfl : j = args.length := by omega
        have hge : ¬ ((args.length : Int) < (args.length : Int)) := by omega
        have HS : Hid ((args.map textE = [] ∧ ∃ a' d', u3 = .slice a' 0 d') ∨ StrsC wr u3 (args.map textE)) := by
          have h := HO.out
          rw [List.take_of_length_le (by simp)] at h
          have h2 : wr.ownsRow (W.heap.size + 1) 9 1 u3 (args.map textE).length ((args.map textE).map fun s => S s) := by rw [List.length_map]; exact h
          exact own_strs h2
        have HLK := Lib.hid (fun (w : World) => look_told (heap_new w (.map tAll 5)) HK.out)
        clear HO IH HC hj hlt
        go_wp2_with fail
        refine wp_region_noPanic (wp_region_sd (fun B => B.heap[W.heap.size]? = some (.cells #[.int .i64 k, .int .i64 v1, .int .i64 v2, S v3, S t, S nm, .int .i64 o, .slice a args.length cap] 30 (0, 0))) ((.take 1 (.take 2 (.take 4 (.take 5 (.one 0 (.one 3 (.one 6 (.take 7 .done))))))))) (by kernel_rfl) (by kernel_rfl) (by kernel_rfl) (fun _ _ _ _ _ h => h) (HX.out) ?_) -- wp_region_sc 
        intro wd HWD hHeld
        refine sc_take' rfl (by rfl) (by intro w hSw; (try dsimp only at hSw); obtain ⟨⟨e0, e1, e2, e3, e4, e5, e6, e7⟩, -⟩ := eight hSw; go_simp; (try (first | with_reducible rfl | rfl))) ?_; (try simp only [Act.put, List.setIfInBounds_toArray, List.set_cons_zero, List.set_cons_succ])
        refine sc_take' rfl (by rfl) (by intro w hSw; (try dsimp only at hSw); obtain ⟨⟨e0, e1, e2, e3, e4, e5, e6, e7⟩, -⟩ := eight hSw; go_simp; (try (first | with_reducible rfl | rfl))) ?_; (try simp only [Act.put, List.setIfInBounds_toArray, List.set_cons_zero, List.set_cons_succ])
        refine sc_take' rfl (by rfl) (by intro w hSw; (try dsimp only at hSw); obtain ⟨⟨e0, e1, e2, e3, e4, e5, e6, e7⟩, -⟩ := eight hSw; go_simp; (try (first | with_reducible rfl | rfl))) ?_; (try simp only [Act.put, List.setIfInBounds_toArray, List.set_cons_zero, List.set_cons_succ])
        refine sc_take' rfl (by rfl) (by intro w hSw; (try dsimp only at hSw); obtain ⟨⟨e0, e1, e2, e3, e4, e5, e6, e7⟩, -⟩ := eight hSw; go_simp; (try (first | with_reducible rfl | rfl))) ?_; (try simp only [Act.put, List.setIfInBounds_toArray, List.set_cons_zero, List.set_cons_succ])
        refine sc_call' rfl (fun K hK => ?_); go_simp; ((with_reducible refine (told_any _).mono ?_); rintro e w3 ⟨rfl, rfl⟩); go_wp2_with fail; refine hK.out _ _ ((by first | exact (heap_old _ _ (Array.getElem?_eq_some_iff.1 hHeld).1).trans hHeld | exact (hb6.block _ (Array.getElem?_eq_some_iff.1 hHeld).1).trans hHeld)) (fun hHeld2 => ?_); clear hHeld hK K; have hHeld := hHeld2; clear hHeld2
        have hlook := HLK.out wd
        refine sc_call' rfl (fun K hK => ?_); go_simp; refine hK.out _ _ (hHeld) (fun hHeld2 => ?_); clear hHeld hK K; have hHeld := hHeld2; clear hHeld2
        refine sc_call' rfl (fun K hK => ?_); go_simp; (refine (HE.out _ _ (HG.out.bl ((HB.out.call HWD.out).alloc _)) (HS.out.imp (fun h => h) fun h => (h.bl HWD.out).bl ((Bl.refl _).alloc _))).mono ?_; rintro e w6 ⟨rfl, hb6⟩); go_wp2_with fail; refine hK.out _ _ ((by first | exact (heap_old _ _ (Array.getElem?_eq_some_iff.1 hHeld).1).trans hHeld | exact (hb6.block _ (Array.getElem?_eq_some_iff.1 hHeld).1).trans hHeld)) (fun hHeld2 => ?_); clear hHeld hK K; have hHeld := hHeld2; clear hHeld2
        refine sc_take' rfl (by rfl) (by intro w hSw; (try dsimp only at hSw); obtain ⟨⟨e0, e1, e2, e3, e4, e5, e6, e7⟩, -⟩ := eight hSw; go_simp; (try (first | with_reducible rfl | rfl))) ?_; (try simp only [Act.put, List.setIfInBounds_toArray, List.set_cons_zero, List.set_cons_succ])
        refine sc_nil (NoPanic.normal ?_)
        go_wp2
        go_ret
        exact ⟨rfl, ((HB.out.call HWD.out).alloc _).call hb6⟩
--END1

end Go.Proofs.YtepkfkfedmbmnaaGreatDoor

namespace Go.Proofs.YtepkfkfedmbmnaaGreatDoor
open Go.RowKit
set_option maxRecDepth 100000

mutual
def fitB : Ex → Bool
  | .mk _ v t n _ args => (decide (-9223372036854775808 ≤ v.2.1) && decide (v.2.1 ≤ 9223372036854775807) && decide (t.length ≤ 100000) && decide (n.length ≤ 100000)) && fitsB args
def fitsB : List Ex → Bool
  | [] => true
  | x :: r => fitB x && fitsB r
end
mutual
theorem fit_of : ∀ x : Ex, fitB x = true → Fits x ∧ Lens x
  | .mk k v t n o args, h => by
    simp only [fitB, Bool.and_eq_true, decide_eq_true_eq] at h
    have ha := fits_of args h.2
    exact ⟨.mk k v t n o args ⟨h.1.1.1.1, h.1.1.1.2⟩ (fun y hy => (ha y hy).1), .mk k v t n o args (by have := h.1.1.2; omega) (by have := h.1.2; omega) (fun y hy => (ha y hy).2)⟩
theorem fits_of : ∀ l : List Ex, fitsB l = true → ∀ y ∈ l, Fits y ∧ Lens y
  | [], _, _, hy => by cases hy
  | x :: r, h, y, hy => by
    simp only [fitsB, Bool.and_eq_true] at h
    rcases List.mem_cons.1 hy with e | hy
    · rw [e]; exact fit_of x h.1
    · exact fits_of r h.2 y hy
end
theorem w1_fit : fitB (parseX wS1).2 = true := by decide +kernel
theorem w2_fit : fitB (parseX wS2).2 = true := by decide +kernel
theorem w3_fit : fitB (parseX wS3).2 = true := by decide +kernel
/-- What is read has few parts. -/
theorem parseX_parts (s : List UInt8) : partsE (parseX s).2 ≤ 10000 := by
  have h0 : partsE zeroE = 1 := by unfold zeroE; simp only [partsE, partssE]
  unfold parseX
  split
  · show partsE zeroE ≤ _
    omega
  · rename_i hl
    cases ht : toksO s with
    | none => show partsE zeroE ≤ _; omega
    | some ts =>
      simp only
      cases hr : readR (ts ++ [endTok s.length]) 0 with
      | out => show partsE zeroE ≤ _; omega
      | bad c => show partsE zeroE ≤ _; omega
      | good k x =>
        simp only
        split
        · have hm := run_parts (tok_ok ht) (steps (ts ++ [endTok s.length])) (.rd 0 0 0) (show 0 < _ by simp)
          unfold readR at hr
          rw [hr] at hm
          have h1 := hm.1
          have h2 := hm.2
          simp only [Job.at, Job.made, List.length_append, List.length_singleton] at h1 h2
          have h3 := few_toks ht
          show partsE x ≤ _
          omega
        · show partsE zeroE ≤ _
          omega
theorem num16_any (n : Int) (w : World) : Calls Tryz.prog 11 #[.int .i64 n] w fun e w' => e = .returned (.int .i64 n) ∧ w = w' := by
  go_enter Tryz.func11, Tryz.ntmps11
  go_wp2
  go_ret
  exact ⟨rfl, rfl⟩
--BEGIN1
set_option maxHeartbeats 2000000 in
theorem eText_yes {x : Ex} (hp : partsE x ≤ 1000000) (hC : checkB x = true) (hF : Fits x) (hL : Lens x) (hl : (textE x).length ≤ 100000000) (W : World) (v : Value) (hv : ReadsE W x v) (hG : Glob W) :
    Calls Tryz.prog 20 #[v] W fun e w' => e = .returned (.tuple #[S (textE x), .int .i64 0]) ∧ Bl W w' := by
  have HCK : Hid (∀ W' v, Bl W W' → ReadsE W' x v → Calls Tryz.prog 26 #[v] W' fun e w' => e = .returned (.int .i64 0) ∧ Bl W' w') := fun W' v hb hv => by
    have h := echeck_any _ x (Nat.le_refl _) hp hL W' v hv (hG.bl hb)
    rw [show ckN x = 0 by unfold ckN; rw [if_pos hC]] at h
    exact h
  have HTX : Hid (∀ W' v, Bl W W' → ReadsE W' x v → Calls Tryz.prog 42 #[v] W' fun e w' => e = .returned (S (textE x)) ∧ Bl W' w') := fun W' v hb hv => etext_any _ x (Nat.le_refl _) hp hC hF hl W' v hv (hG.bl hb)
  have HV := Lib.hid hv
  obtain ⟨sv, rfl, hR⟩ := hv
  obtain ⟨a, cap, rfl, -⟩ := hR.shape
  clear hR hC hF hL hp hl
  obtain ⟨u, hu⟩ : ∃ u, Hid (textE x = u) := ⟨_, rfl⟩
  rw [hu.out] at HTX ⊢
  obtain ⟨k, ⟨v1, v2, v3⟩, t, n, o, args⟩ := x
  simp only [Ex.k, Ex.v, Ex.t, Ex.n, Ex.o, Ex.args] at *
  have hX0 := heap_new W (.cells #[.int .i64 k, .int .i64 v1, .int .i64 v2, S v3, S t, S n, .int .i64 o, .slice a args.length cap] 30)
  have HB0 := Lib.hid ((Bl.refl W).alloc (.cells #[.int .i64 k, .int .i64 v1, .int .i64 v2, S v3, S t, S n, .int .i64 o, .slice a args.length cap] 30))
  go_enter Tryz.func20, Tryz.ntmps20
  go_wp2_with fail
  refine (HCK.out _ _ HB0.out (HV.out.bl HB0.out)).mono ?_
  rintro e w1 ⟨rfl, hb1⟩
  have HB1 := Lib.hid (HB0.out.call hb1)
  have hX1 := (hb1.block _ (by simp)).trans hX0
  obtain ⟨⟨e0, e1, e2, e3, e4, e5, e6, e7⟩, -⟩ := eight hX1
  clear hb1 hX0
  go_wp2_with fail
  refine (HTX.out _ _ HB1.out (HV.out.bl HB1.out)).mono ?_
  rintro e w2 ⟨rfl, hb2⟩
  go_wp2
  go_ret2
  exact ⟨rfl, HB1.out.call hb2⟩
--END1
--BEGIN2
set_option maxHeartbeats 2000000 in
theorem is16_any {s t : List UInt8} (hs : s.length ≤ 9223372036854775807) (hk : OkT s t) (hf : fitB (parseX s).2 = true) (W : World) (hG : Glob W) : Calls Tryz.prog 28 #[S s, S t] W fun e w' => e = .returned (.bool true) ∧ Bl W w' := by
  obtain ⟨hF, hL⟩ := fit_of _ hf
  have HX : Hid (∀ W' v, Bl W W' → ReadsE W' (parseX s).2 v → Calls Tryz.prog 20 #[v] W' fun e w' => e = .returned (.tuple #[S t, .int .i64 0]) ∧ Bl W' w') := fun W' v hb hv => by
    have h := eText_yes (by have := hk.few; omega) hk.chk hF hL (by rw [hk.txt]; have := hk.len; omega) W' v hv (hG.bl hb)
    rw [hk.txt] at h
    exact h
  have HP : Hid (Calls Tryz.prog 8 #[S s] W (XParsePost s W)) := eParse_any s hs W hG
  have HN := Lib.hid hk.no
  clear hF hL hf hk hG
  go_enter Tryz.func28, Tryz.ntmps28
  go_wp2_with fail
  refine HP.out.mono ?_
  rintro e w1 ⟨v, hv, rfl, hb1⟩
  rw [HN.out]
  have HV := Lib.hid hv
  obtain ⟨sv, rfl, hR⟩ := hv
  obtain ⟨a, cap, rfl, -⟩ := hR.shape
  clear hR HN HP
  generalize (parseX s).2 = x at *
  obtain ⟨k, ⟨v1, v2, v3⟩, t', n, o, args⟩ := x
  simp only [Ex.k, Ex.v, Ex.t, Ex.n, Ex.o, Ex.args] at *
  have HB1 := Lib.hid (hb1.alloc (.cells #[.int .i64 k, .int .i64 v1, .int .i64 v2, S v3, S t', S n, .int .i64 o, .slice a args.length cap] 30))
  have HV2 := Lib.hid (HV.out.bl ((Bl.refl w1).alloc (.cells #[.int .i64 k, .int .i64 v1, .int .i64 v2, S v3, S t', S n, .int .i64 o, .slice a args.length cap] 30)))
  clear hb1
  go_wp2_with fail
  refine (HX.out _ _ HB1.out HV2.out).mono ?_
  rintro e w2 ⟨rfl, hb2⟩
  have HB2 := Lib.hid (HB1.out.call hb2)
  go_wp2_with (first
    | (go_at_call 11; (with_reducible refine (num16_any _ _).mono ?_); rintro e w' ⟨rfl, rfl⟩))
  go_ret
  exact ⟨rfl, HB2.out⟩
--END2

end Go.Proofs.YtepkfkfedmbmnaaGreatDoor

namespace Go.Proofs.YtepkfkfedmbmnaaGreatDoor
open Go.RowKit
set_option maxRecDepth 100000

theorem w4_eq : (parseX wS4).1 = 261 := by simpa using w4_no
theorem w5_eq : (parseX wS5).1 = 261 := by simpa using w5_no
/-- What a parse answers, as the walk wants it. -/
theorem XParsePost.open {s : List UInt8} {W : World} {e : Ending} {w' : World} (h : XParsePost s W e w') : ∃ k v1 v2 v3 t n o a m c, e = .returned (.tuple #[EV k (v1, v2, v3) t n o (.slice a m c), .int .i64 (parseX s).1]) ∧ Bl W w' ∧ ReadsE w' (parseX s).2 (EV k (v1, v2, v3) t n o (.slice a m c)) := by
  obtain ⟨v, hv, rfl, hb⟩ := h
  obtain ⟨sv, rfl, hR⟩ := id hv
  obtain ⟨a, cap, rfl, -⟩ := hR.shape
  exact ⟨_, _, _, _, _, _, _, _, _, _, rfl, hb, hv⟩
--BEGIN1
set_option maxHeartbeats 4000000 in
theorem works16_any (W : World) (hG : Glob W) : Calls Tryz.prog 7 #[] W fun e w' => e = .returned (.bool true) ∧ Bl W w' := by
  have HG := Lib.hid hG
  clear hG
  go_enter Tryz.func7, Tryz.ntmps7
  go_wp2_with fail
  refine (eParse_any wS4 (by decide) _ HG.out).mono ?_
  intro e w1 hp
  obtain ⟨k, v1, v2, v3, t, n, o, a, m, c, rfl, hb1, -⟩ := hp.open
  rw [w4_eq]
  clear hp
  have HB1 := Lib.hid (hb1.alloc (.cells #[.int .i64 k, .int .i64 v1, .int .i64 v2, S v3, S t, S n, .int .i64 o, .slice a m c] 30))
  clear hb1
  go_wp2_with fail
  refine (eParse_any wS5 (by decide) _ (HG.out.bl HB1.out)).mono ?_
  intro e w2 hp
  obtain ⟨k', v1', v2', v3', t', n', o', a', m', c', rfl, hb2, -⟩ := hp.open
  rw [w5_eq]
  clear hp
  have HB2 := Lib.hid ((HB1.out.call hb2).alloc (.cells #[.int .i64 k', .int .i64 v1', .int .i64 v2', S v3', S t', S n', .int .i64 o', .slice a' m' c'] 30))
  clear hb2
  go_wp2_with fail
  refine (is16_any (s := wS1) (t := wT1) (by decide) (okT w1_ok) w1_fit _ (HG.out.bl HB2.out)).mono ?_
  rintro e w3 ⟨rfl, hb3⟩
  have HB3 := Lib.hid (HB2.out.call hb3)
  go_wp2_with fail
  refine (is16_any (s := wS2) (t := wT2) (by decide) (okT w2_ok) w2_fit _ (HG.out.bl HB3.out)).mono ?_
  rintro e w4 ⟨rfl, hb4⟩
  have HB4 := Lib.hid (HB3.out.call hb4)
  go_wp2_with fail
  refine (is16_any (s := wS3) (t := wS3) (by decide) (okT w3_ok) w3_fit _ (HG.out.bl HB4.out)).mono ?_
  rintro e w5 ⟨rfl, hb5⟩
  have HB5 := Lib.hid (HB4.out.call hb5)
  clear hb3 hb4 hb5
  go_wp2_with (first
    | (go_at_call 11; (with_reducible refine (num16_any _ _).mono ?_); rintro e w' ⟨rfl, rfl⟩))
  go_ret
  exact ⟨rfl, HB5.out⟩
--END1
--BEGIN2
--END2

end Go.Proofs.YtepkfkfedmbmnaaGreatDoor

