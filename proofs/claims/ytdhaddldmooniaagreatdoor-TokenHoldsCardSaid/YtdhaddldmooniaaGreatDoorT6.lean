/- Package token: caught, read, All. -/
import Derived.Test.YtdhaddldmooniaaGreatDoorT5
namespace Go.Proofs.YtdhaddldmooniaaGreatDoor
open Go.RowKit
set_option maxRecDepth 100000

theorem tcaught_idle (p : Addr) (w : World) :
    CallsD Tryz.prog 33 #[.pointer (some p)] .returning w fun e u' w' => e = .returned (.tuple #[]) ∧ u' = .returning ∧ w = w' := by
  refine callsD_of_wpS Tryz.func33 rfl fun c₀ cs hu => ?_
  apply wpS_seq
  apply wpS_region
  simp [wpOpsS, go_sem, recoverD, hu, Tryz.ntmps33, Exit.thenS]
  refine wpS_of_wp ?_
  go_wp2
  cases c₀
  simp_all [bodyPostS, results, Tryz.results33]

set_option maxHeartbeats 400000 in
theorem tcaught_panic (p : Addr) (x n : Int) (w : World) (hc : w.cell? p = some (.int .i64 x)) (hz : w.frozen? p = false) :
    CallsD Tryz.prog 33 #[.pointer (some p)] (.panicking [{ v := .iface 25 (.int .i64 n), recovered := false }]) w fun e u' w' =>
      e = .returned (.tuple #[]) ∧ u' = .panicking [{ v := .iface 25 (.int .i64 n), recovered := true }] ∧ w' = w.setCell p (.int .i64 n) := by
  refine callsD_of_wpS Tryz.func33 rfl fun c₀ cs hu => ?_
  apply wpS_seq
  apply wpS_region
  simp [wpOpsS, go_sem, recoverD, hu, Tryz.ntmps33, Exit.thenS]
  refine wpS_of_wp ?_
  have hta : ∀ w, (Instr.typeAssert (.iface 25 (.int .i64 n)) 20 25 false).run Tryz.prog w = .ok (.int .i64 n) w := fun _ => by kernel_rfl
  rw [show ∀ a x : Value, #[a] ++ (((Array.replicate 9 undef).setIfInBounds 2 x).setIfInBounds 1 x) = #[a, undef, x, x, undef, undef, undef, undef, undef, undef] from fun _ _ => rfl]
  go_wp2_with fail
  cases c₀
  simp_all [bodyPostS, results, Tryz.results33]

def tokCells (x : Tok) : List Value := [.int .i64 x.k, .int .i64 x.pos, S x.t, .int .i64 x.v.1, .int .i64 x.v.2.1, S x.v.2.2]
def rowOf (l : List Tok) : List Value := l.flatMap tokCells
theorem rowOf_length (l : List Tok) : (rowOf l).length = l.length * 6 := by
  unfold rowOf; induction l with
  | nil => rfl
  | cons a l ih => simp [tokCells] at ih ⊢; omega
theorem rowOf_snoc (l : List Tok) (x : Tok) : rowOf (l ++ [x]) = rowOf l ++ tokCells x := by simp [rowOf]
theorem infoTok : (Tryz.prog.info? 34).map (fun i => (i.zero, i.size, i.bytes)) = some (some (.agg #[.int .i64 0, .int .i64 0, .string ⟨#[]⟩, .int .i64 0, .int .i64 0, .string ⟨#[]⟩]), 6, 64) := by kernel_rfl


theorem ownsRow_bl {W W' : World} (hb : Bl W W') {base : Nat} {e : TypeId} {size n : Nat} {v : Value} {xs : List Value} (h : W.ownsRow base e size v n xs) : W'.ownsRow base e size v n xs := by
  refine ⟨h.1, ?_⟩
  rcases h.2 with h0 | ⟨g, cap, cur, hv, hg, hh, r⟩
  · exact .inl h0
  · exact .inr ⟨g, cap, cur, hv, hg, (hb.block g (Array.getElem?_eq_some_iff.1 hh).1).trans hh, r⟩

theorem own_slice {W : World} {base : Nat} {e : TypeId} {size : Nat} {v : Value} {k : Nat} {xs : List Value} (h : W.ownsRow base e size v (k + 1) xs) : ∃ g cap, v = .slice (some ⟨g, 0, none⟩) (k + 1) cap := by
  rcases h.2 with ⟨_, h0⟩ | ⟨g, cap, _, rfl, _⟩
  · omega
  · exact ⟨g, cap, rfl⟩

def endTok (N : Nat) : Tok := ⟨4, N, [], (0, 0, [])⟩
/-- The tokens of a text. -/
def toksO (l : List UInt8) : Option (List Tok) := toks parseO l.length l
def allErr (l : List UInt8) : Int := if 4000 < l.length then 3 else if toksO l = none then 250 else 0

/-- Up to place k the tokens acc have been read. -/
def RdAt (l : List UInt8) (k : Nat) (acc : List Tok) : Prop := k ≤ l.length ∧ acc.length ≤ k ∧ skipM false (l.drop k) = l.drop k ∧ toksO l = (toks parseO l.length (l.drop k)).map (acc ++ ·)
theorem skip_drop (l : List UInt8) : l.drop (l.length - (skipM false l).length) = skipM false l := (skipM_suffix false l).symm
theorem RdAt.start (l : List UInt8) : RdAt l (l.length - (skipM false l).length) [] := by
  refine ⟨by omega, by simp, by rw [skip_drop, skipM_idem], ?_⟩
  rw [skip_drop, toks_skip l.length (skipM false l) l (skipM_idem _ _)]
  unfold toksO
  cases toks parseO l.length l <;> simp
theorem RdAt.bad {l : List UInt8} {k : Nat} {acc : List Tok} (h : RdAt l k acc) (hk : k < l.length) (h1 : one1 parseO (l.drop k) = none) : toksO l = none := by
  rw [h.2.2.2, toks_eq, h.2.2.1, if_neg (by simp; omega), h1]
  rfl
theorem RdAt.done {l : List UInt8} {acc : List Tok} (h : RdAt l l.length acc) : toksO l = some acc := by
  rw [h.2.2.2, List.drop_length, toks_nil]
  simp
def tokAt (l : List UInt8) (k : Nat) (x : Int × Nat × (Int × Int × List UInt8)) : Tok := ⟨x.1, k, (l.drop k).take x.2.1, x.2.2⟩
theorem RdAt.next {l : List UInt8} {k : Nat} {acc : List Tok} (h : RdAt l k acc) (hk : k < l.length) {x : Int × Nat × (Int × Int × List UInt8)} (h1 : one1 parseO (l.drop k) = some x) :
    RdAt l (k + x.2.1 + ((l.drop (k + x.2.1)).length - (skipM false (l.drop (k + x.2.1))).length)) (acc ++ [tokAt l k x]) := by
  have hle := one1_le h1
  have hkl := hle.2.1
  simp at hkl
  have e1 : l.drop (k + x.2.1 + ((l.drop (k + x.2.1)).length - (skipM false (l.drop (k + x.2.1))).length)) = skipM false (l.drop (k + x.2.1)) := by
    rw [← List.drop_drop, skip_drop]
  have hsl := skipM_le false (l.drop (k + x.2.1))
  refine ⟨by simp at hsl ⊢; omega, by have := h.2.1; simp; omega, by rw [e1, skipM_idem], ?_⟩
  rw [e1, toks_skip l.length (skipM false (l.drop (k + x.2.1))) (l.drop (k + x.2.1)) (skipM_idem _ _), h.2.2.2, toks_eq, h.2.2.1, if_neg (by simp; omega), h1]
  simp only [Option.bind_some, List.drop_drop]
  have e2 : l.length - (l.drop k).length = k := by simp; omega
  rw [e2]
  cases toks parseO l.length (l.drop (k + x.2.1)) <;> simp [tokAt]

def ReadPost (l : List UInt8) (w : World) (e : Ending) (w' : World) : Prop :=
  ∃ v, e = .returned (.tuple #[v, .int .i64 (allErr l)]) ∧ Bl w w' ∧ (∀ ts, allErr l = 0 → toksO l = some ts → w'.ownsRow w.heap.size 34 6 v (ts.length + 1) (rowOf (ts ++ [endTok l.length])))

set_option maxHeartbeats 1000000 in
theorem tread_long (l : List UInt8) (h : 4000 < l.length) (hm : l.length ≤ 9223372036854775807) (w : World) : Calls Tryz.prog 23 #[S l] w (ReadPost l w) := by
  have HE : Hid (allErr l = 3) := by show allErr l = 3; unfold allErr; rw [if_pos h]
  have hb4 : decide ((l.length : Int) ≤ 4000) = false := by simp; omega
  go_enter_defers Tryz.func23, Tryz.ntmps23
  go_wp2_with (first | (go_at_call 34; (with_reducible refine (tmust_no _ _).mono ?_); rintro e w' ⟨rfl, rfl⟩))
  refine leaves_cons (f := 33) (args := #[.pointer (some ⟨w.heap.size, 0, none⟩)]) (by simp) (by simp [go_sem]) ?_
  have hA := heap_new w (.cells #[.int .i64 0] 25)
  have c0 : (w.alloc (.cells #[.int .i64 0] 25)).cell? ⟨w.heap.size, 0, none⟩ = some (.int .i64 0) := by rw [Lib.cell_of_heap hA]; rfl
  refine (tcaught_panic ⟨w.heap.size, 0, none⟩ 0 3 _ c0 (Lib.frozen_of_heap hA 0)).mono ?_
  rintro e u' w'' ⟨rfl, rfl, rfl⟩
  have c1 := set_same (u := .int .i64 3) c0
  refine ⟨.tuple #[.slice none 0 0, .int .i64 3], ?_, _, by rw [HE.out], ((Bl.refl w).alloc _).set (by simp) _, fun ts h0 => by rw [HE.out] at h0; cases h0⟩
  simp [results, Tryz.results23, go_sem]

set_option maxHeartbeats 4000000 in
theorem tread_any (l : List UInt8) (hl : l.length ≤ 4000) (w : World) (hG : Glob w) : Calls Tryz.prog 23 #[S l] w (ReadPost l w) := by
  have HG := Lib.hid hG
  clear hG
  have hb4 : decide ((l.length : Int) ≤ 4000) = true := by simp; omega
  go_enter_defers Tryz.func23, Tryz.ntmps23
  go_wp2_with (first | (go_at_call 34; (with_reducible refine (tmust_yes _ _).mono ?_); rintro e w' ⟨rfl, rfl⟩))
  (with_reducible refine (tskip_any l (by omega) _).mono ?_)
  rintro e w1 ⟨rfl, hb1⟩
  have hA1 : w1.heap[w.heap.size]? = some (.cells #[.int .i64 0] 25 (0, 0)) := (hb1.block _ (by simp)).trans (heap_new w _)
  have hB1 : Bl w w1 := ((Bl.refl w).alloc _).call hb1
  have hst := RdAt.start l
  have hk0 := hst.1
  generalize l.length - (skipM false l).length = k0 at *
  have HST := Lib.hid hst
  clear hst hb1
  go_wp2_with fail
  go_loopw [2, 4] (fun v i wr => ∃ (k : Nat) (acc : List Tok), k ≤ l.length ∧ i = .int .i64 k ∧ Hid (RdAt l k acc) ∧ Bl w wr ∧ wr.heap[w.heap.size]? = some (.cells #[.int .i64 0] 25 (0, 0)) ∧ wr.ownsRow (w.heap.size + 1) 34 6 v acc.length (rowOf acc)) (fun _ i _ => l.length - (intOf i).toNat)
  case atStart => exact ⟨k0, [], hk0, rfl, HST.out, hB1, hA1, ⟨rfl, .inl ⟨rfl, rfl⟩⟩⟩
  case round =>
    obtain ⟨k, acc, hk, rfl, HR, hB, hA, hown⟩ := hrel
    have hwr : w.heap.size < wr.heap.size := (Array.getElem?_eq_some_iff.1 hA).1
    have hacc := HR.out.2.1
    obtain ⟨i0, hi, hz0, hz1, hz2⟩ := info_parts infoTok
    by_cases hlt : k < l.length
    · go_wp2_with fail
      (with_reducible refine (tone_any l k hlt (by omega) _ (HG.out.bl hB)).mono ?_)
      rintro e w2 ⟨rfl, hb2⟩
      have hA2 := (hb2.block _ hwr).trans hA
      have hB2 := hB.call hb2
      have hG2 := HG.out.bl hB2
      have HG2 := Lib.hid hG2
      clear hG2
      cases ho : one1 parseO (l.drop k) with
      | none =>
        have HE : Hid (allErr l = 250) := by show allErr l = 250; unfold allErr; rw [if_neg (by omega), if_pos (HR.out.bad hlt ho)]
        have c0 : w2.cell? ⟨w.heap.size, 0, none⟩ = some (.int .i64 0) := by rw [Lib.cell_of_heap hA2]; rfl
        have f0 := Lib.frozen_of_heap hA2 0
        rw [show oneEnd l k = .panicked [{ v := .iface 25 (.int .i64 250), recovered := false }] by unfold oneEnd; rw [ho]]
        refine leaves_cons (f := 33) (args := #[.pointer (some ⟨w.heap.size, 0, none⟩)]) (by simp) (by simp [go_sem]) ?_
        refine (tcaught_panic ⟨w.heap.size, 0, none⟩ 0 250 _ c0 f0).mono ?_
        rintro e u' w'' ⟨rfl, rfl, rfl⟩
        have c1 := set_same (u := .int .i64 250) c0
        refine ⟨.tuple #[u2, .int .i64 250], ?_, _, by rw [HE.out], hB2.set (by simp) _, fun ts h0 => by rw [HE.out] at h0; cases h0⟩
        simp [results, Tryz.results23, go_sem, c1]
      | some x =>
        have hle := one1_le ho
        have hlx : k + x.2.1 ≤ l.length := by have := hle.2.1; simp at this; omega
        have HN := Lib.hid (HR.out.next hlt ho)
        rw [show oneEnd l k = .returned (TV x.1 k ((l.drop k).take x.2.1) x.2.2.1 x.2.2.2.1 x.2.2.2.2) by unfold oneEnd; rw [ho]]
        have hown2 := ownsRow_bl hb2 hown
        clear hown ho hb2 hA hB
        have hln : ((l.drop k).take x.2.1).length = x.2.1 := by have := hle.2.1; simp at this ⊢; omega
        have HLN := Lib.hid hln
        clear hln
        obtain ⟨x1, m, v1, v2, v3⟩ := x
        simp only at HN HLN hlx hle ⊢
        generalize htx : (l.drop k).take m = tx at *
        have HTX := Lib.hid htx
        clear htx
        have hz2' : w.heap.size < w2.heap.size := (Array.getElem?_eq_some_iff.1 hA2).1
        have hap := ownsRow_apart hown2 (k := w.heap.size) (by omega)
        go_wp2_with (at_builtin; refine wpList_append_own _ rfl _ _ 24 rfl (w.heap.size + 1) 34 i0 (.agg #[.int .i64 0, .int .i64 0, .string ⟨#[]⟩, .int .i64 0, .int .i64 0, .string ⟨#[]⟩]) 6 64 Tryz.underlying24 hi hz0 hz1 hz2 rfl (by decide) _ _ _ rfl ((hown2.alloc _).alloc _) ⟨w2.heap.size + 1, 0, none⟩ 1 1 [.int .i64 x1, .int .i64 (k : Int), S tx, .int .i64 v1, .int .i64 v2, S v3] rfl rfl ?c1 ?c2 ?c3 ?c4 ?c5 ?_)
        case c1 =>
          intro j u hj
          match j, hj with
          | 0, hj => simp at hj; subst hj; simp [Addr.add, go_sem]
          | 1, hj => simp at hj; subst hj; simp [Addr.add, go_sem]
          | 2, hj => simp at hj; subst hj; simp [Addr.add, go_sem]
          | 3, hj => simp at hj; subst hj; simp [Addr.add, go_sem]
          | 4, hj => simp at hj; subst hj; simp [Addr.add, go_sem]
          | 5, hj => simp at hj; subst hj; simp [Addr.add, go_sem]
        case c2 => intro u hu; simp at hu; rcases hu with rfl | rfl | rfl | rfl | rfl | rfl <;> rfl
        case c3 => unfold maxLen; omega
        case c4 => omega
        case c5 => simp; omega
        intro v' w4 hown4 hgrow _
        have hne2 : u2.ownBlock ≠ some w2.heap.size := fun e => by have := (hown2.lt _ e).2; omega
        have hb4' : Bl w w4 := Below.grown ((hB2.alloc _).alloc _) hgrow (by have := hB2.size; simp; omega) (fun j hj => by have := (hown2.lt j hj).1; omega)
        have hA4 : w4.heap[w.heap.size]? = some (.cells #[.int .i64 0] 25 (0, 0)) := by
          rw [hgrow.block _ (by simp; omega) (fun e => hap e.symm), heap_old _ _ (by simp; omega), heap_old _ _ hz2']; exact hA2
        have hT4 : w4.heap[w2.heap.size]? = some (.cells #[.int .i64 x1, .int .i64 (k : Int), S tx, .int .i64 v1, .int .i64 v2, S v3] 34 (0, 0)) := by
          rw [hgrow.block _ (by simp; omega) (fun e => hne2 e.symm), heap_old _ _ (by simp), heap_new]
        have t2 : w4.cell? ⟨w2.heap.size, 2, none⟩ = some (S tx) := by rw [Lib.cell_of_heap hT4]; rfl
        have hG4 := HG.out.bl hb4'
        have htl := HLN.out
        have htail := ext_tail l (k + m)
        have hrow : rowOf acc ++ [.int .i64 x1, .int .i64 (k : Int), S tx, .int .i64 v1, .int .i64 v2, S v3] = rowOf (acc ++ [tokAt l k (x1, m, v1, v2, v3)]) := by
          rw [rowOf_snoc]; simp [tokAt, tokCells, HTX.out]
        rw [hrow] at hown4
        have HO := Lib.hid hown4
        obtain ⟨g4, cap4, rfl⟩ := own_slice hown4
        clear hown4 hgrow hrow hA2 hB2 hown2 hap hne2 hT4
        have hlt5 : (⟨tx.toArray⟩ : ByteArray).size = m := by rw [size_of_list]; exact htl
        go_wp2_with fail
        (with_reducible refine (tskip_any (l.drop (k + m)) (by simp; omega) _).mono ?_)
        rintro e w5 ⟨rfl, hb5⟩
        have hw4 : w.heap.size < w4.heap.size := (Array.getElem?_eq_some_iff.1 hA4).1
        have hA5 := (hb5.block _ hw4).trans hA4
        have hO5 := ownsRow_bl hb5 HO.out
        have hk5 := HN.out.1
        generalize (l.drop (k + m)).length - (skipM false (l.drop (k + m))).length = d at *
        clear htail hlt5 htl t2 hG4 hA4
        go_wp2
        go_roundw
        case rel => exact ⟨k + m + d, acc ++ [tokAt l k (x1, m, v1, v2, v3)], hk5, by go_num, HN.out, hb4'.call hb5, hA5, by simpa using hO5⟩
        case measure => simp [intOf]; omega
    · obtain rfl : k = l.length := by omega
      have hdone := HR.out.done
      have HD := Lib.hid hdone
      have HE : Hid (allErr l = 0) := by show allErr l = 0; unfold allErr; rw [if_neg (by omega), if_neg (by rw [hdone]; simp)]
      clear hdone
      have hap := ownsRow_apart hown (k := w.heap.size) (by omega)
      go_wp2_with (at_builtin; refine wpList_append_own _ rfl _ _ 24 rfl (w.heap.size + 1) 34 i0 (.agg #[.int .i64 0, .int .i64 0, .string ⟨#[]⟩, .int .i64 0, .int .i64 0, .string ⟨#[]⟩]) 6 64 Tryz.underlying24 hi hz0 hz1 hz2 rfl (by decide) _ _ _ rfl (hown.alloc _) ⟨wr.heap.size, 0, none⟩ 1 1 [.int .i64 4, .int .i64 (l.length : Int), .string ⟨#[]⟩, .int .i64 0, .int .i64 0, .string ⟨#[]⟩] rfl rfl ?d1 ?d2 ?d3 ?d4 ?d5 ?_)
      case d1 =>
        intro j u hj
        match j, hj with
        | 0, hj => simp at hj; subst hj; simp [Addr.add, go_sem]
        | 1, hj => simp at hj; subst hj; simp [Addr.add, go_sem]
        | 2, hj => simp at hj; subst hj; simp [Addr.add, go_sem]
        | 3, hj => simp at hj; subst hj; simp [Addr.add, go_sem]
        | 4, hj => simp at hj; subst hj; simp [Addr.add, go_sem]
        | 5, hj => simp at hj; subst hj; simp [Addr.add, go_sem]
      case d2 => intro u hu; simp at hu; rcases hu with rfl | rfl | rfl | rfl | rfl <;> rfl
      case d3 => unfold maxLen; omega
      case d4 => omega
      case d5 => simp; omega
      intro v' w4 hown4 hgrow _
      have hb4' : Bl w w4 := Below.grown (hB.alloc _) hgrow (by have := hB.size; simp; omega) (fun j hj => by have := (hown.lt j hj).1; omega)
      have hA4 : w4.heap[w.heap.size]? = some (.cells #[.int .i64 0] 25 (0, 0)) := by
        rw [hgrow.block _ (by simp; omega) (fun e => hap e.symm), heap_old _ _ hwr]; exact hA
      have hrow : rowOf acc ++ [.int .i64 4, .int .i64 (l.length : Int), .string ⟨#[]⟩, .int .i64 0, .int .i64 0, .string ⟨#[]⟩] = rowOf (acc ++ [endTok l.length]) := by
        rw [rowOf_snoc]; simp [endTok, tokCells]
      rw [hrow] at hown4
      have HO := Lib.hid hown4
      obtain ⟨g4, cap4, rfl⟩ := own_slice hown4
      have hg4 := ownsRow_apart hown4 (k := w.heap.size) (by omega)
      have HG4 := Lib.hid hg4
      clear hown4 hgrow hrow hA hB hown hap hg4
      have c0 : w4.cell? ⟨w.heap.size, 0, none⟩ = some (.int .i64 0) := by rw [Lib.cell_of_heap hA4]; rfl
      have f0 := Lib.frozen_of_heap hA4 0
      go_wp2_with fail
      refine leaves_cons (f := 33) (args := #[.pointer (some ⟨w.heap.size, 0, none⟩)]) (by simp) (by simp [go_sem]) ?_
      refine (tcaught_idle _ _).mono ?_
      rintro e u' w'' ⟨rfl, rfl, rfl⟩
      have c1 := set_same (u := .int .i64 0) c0
      refine ⟨.tuple #[.slice (some ⟨g4, 0, none⟩) (acc.length + 1) cap4, .int .i64 0], ?_, _, by rw [HE.out], hb4'.set (by simp) _, fun ts _ h1 => ?_⟩
      · simp [results, Tryz.results23, go_sem, c1]
      · rw [HD.out] at h1
        injection h1 with h1
        subst h1
        refine ownsRow_low (base := w.heap.size + 1) (HO.out.kept (row := some w.heap.size) ⟨rfl, rfl, rfl, by simp [World.setCell], fun k _ hk => Below.heap_setCell _ _ _ _ (fun e => hk (by simp [e]))⟩ (.inr HG4.out)) (by omega)

/-- token.All. -/
def AllPost (l : List UInt8) (w : World) (e : Ending) (w' : World) : Prop :=
  (∃ v, e = .returned (.tuple #[v, .int .i64 (allErr l)]) ∧ Bl w w' ∧ (allErr l ≠ 0 → v = .slice none 0 0) ∧ (∀ ts, allErr l = 0 → toksO l = some ts → w'.ownsRow w.heap.size 34 6 v (ts.length + 1) (rowOf (ts ++ [endTok l.length]))))
theorem allErr_range (l : List UInt8) : allErr l = 0 ∨ allErr l = 3 ∨ allErr l = 250 := by unfold allErr; split <;> (try split) <;> simp
theorem tread_all (l : List UInt8) (hm : l.length ≤ 9223372036854775807) (w : World) (hG : Glob w) : Calls Tryz.prog 23 #[S l] w (ReadPost l w) := by
  by_cases h : l.length ≤ 4000
  · exact tread_any l h w hG
  · exact tread_long l (by omega) hm w
set_option maxHeartbeats 1000000 in
theorem tAll_any (l : List UInt8) (hm : l.length ≤ 9223372036854775807) (w : World) (hG : Glob w) : Calls Tryz.prog 6 #[S l] w (AllPost l w) := by
  go_enter Tryz.func6, Tryz.ntmps6
  go_wp2_with fail
  refine (tread_all l hm _ hG).mono ?_
  rintro e w1 ⟨v, rfl, hb, ho⟩
  have HO := Lib.hid ho
  clear ho
  by_cases h0 : allErr l = 0
  · have HZ := Lib.hid h0
    rw [h0]
    clear h0
    go_wp2
    go_ret2
    exact ⟨v, by rw [HZ.out]; rfl, hb, fun h => absurd HZ.out h, HO.out⟩
  · have HZ := Lib.hid h0
    have hz : (allErr l != 0) = true := by simpa using h0
    have hz' : (allErr l == 0) = false := by simpa using h0
    clear h0
    go_wp2
    go_ret2
    exact ⟨.slice none 0 0, rfl, hb, fun _ => rfl, fun ts h => absurd h HZ.out⟩

end Go.Proofs.YtdhaddldmooniaaGreatDoor
