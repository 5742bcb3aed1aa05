/- Expressions are appended. The reference's called. The reference reads: in so many steps; Read. The reference's Parse. The reference's IsName. -/
import Derived.Test.YtepkfkfedmbmnaaGreatDoorMX
import Derived.Test.YtepkfkfedmbmnaaGreatDoorX8
import Derived.Test.YtepkfkfedmbmnaaGreatDoorMQ
import Derived.Test.YtepkfkfedmbmnaaGreatDoorMW
import Derived.Maps.AppendAt
import Derived.Deep.CutBlock
namespace Go.Proofs.YtepkfkfedmbmnaaGreatDoor
open Go.RowKit
set_option maxRecDepth 100000

theorem infoEx : (Tryz.prog.info? 30).map (fun i => (i.zero, i.size, i.bytes)) = some (some (.agg #[.int .i64 0, .int .i64 0, .int .i64 0, .string ⟨#[]⟩, .string ⟨#[]⟩, .string ⟨#[]⟩, .int .i64 0, .slice none 0 0]), 8, 104) := by kernel_rfl
theorem infoEx_parts : ∃ i, Tryz.prog.info? 30 = some i ∧ i.zero = some (.agg #[.int .i64 0, .int .i64 0, .int .i64 0, .string ⟨#[]⟩, .string ⟨#[]⟩, .string ⟨#[]⟩, .int .i64 0, .slice none 0 0]) ∧ i.size = 8 ∧ i.bytes = 104 := by
  cases hi : Tryz.prog.info? 30 with
  | none => have := infoEx; rw [hi] at this; cases this
  | some i =>
    have := infoEx
    rw [hi] at this
    simp only [Option.map_some, Option.some.injEq, Prod.mk.injEq] at this
    exact ⟨i, rfl, this.1, this.2.1, this.2.2⟩
/-- One expression is appended to a row that the call owns. -/
theorem append_ex {o : Oper} {a : Act} {w : World} {K : Act → World → Prop} {Q : Exit → Act → World → Prop} (s x : Operand) (ho : o.op = .call { callee := .builtin .append, args := #[s, x], argTypes := #[28, 28] })
    (base : Nat) (v : Value) (acc : List (Ex × Value)) (hs : a.eval s = v) (hown : w.ownsRow base 30 8 v acc.length (rowE acc)) (b : Nat) (y : Ex) (a2 : Option Addr) (n2 c2 : Nat) (hx : a.eval x = .slice (some ⟨b, 0, none⟩) 1 1) {t : TypeId}
    (hb : w.heap[b]? = some (.cells #[.int .i64 y.k, .int .i64 y.v.1, .int .i64 y.v.2.1, S y.v.2.2, S y.t, S y.n, .int .i64 y.o, .slice a2 n2 c2] t (0, 0))) (hfew : acc.length ≤ 1000000) (hbase : base ≤ w.heap.size)
    (h : ∀ v' w', w'.ownsRow base 30 8 v' (acc.length + 1) (rowE (acc ++ [(y, .slice a2 n2 c2)])) → w.grownBy w' v.ownBlock → (v'.ownBlock = v.ownBlock ∨ v'.ownBlock = some w.heap.size) → K (a.put o.dst v') w') : Oper.wp Tryz.prog o a w K Q := by
  obtain ⟨i, hi, hz0, hz1, hz2⟩ := infoEx_parts
  obtain ⟨v', w', hr, h2, h3, h4, h5⟩ := run_append_own_at (P := Tryz.prog) w base 28 o.type 30 i (.agg #[.int .i64 0, .int .i64 0, .int .i64 0, .string ⟨#[]⟩, .string ⟨#[]⟩, .string ⟨#[]⟩, .int .i64 0, .slice none 0 0]) 8 104 Tryz.underlying28 hi hz0 hz1 hz2 rfl (by decide) v acc.length (rowE acc) hown ⟨b, 0, none⟩ 1 1 (cells8 y (.slice a2 n2 c2)) rfl
    (by
      intro j u hj
      have : w.cell? ⟨b, 0 + j, none⟩ = some u := by
        rw [Lib.cell_of_heap hb, Nat.zero_add, ← hj]
        unfold cells8
        match j with
        | 0 | 1 | 2 | 3 | 4 | 5 | 6 | 7 => rfl
        | n + 8 => simp
      have e : (⟨b, 0, none⟩ : Addr).add j = ⟨b, 0 + j, none⟩ := by simp [Addr.add]; intro h; exact h.symm
      rw [e]
      exact this)
    (by intro u hu; simp [cells8] at hu; rcases hu with rfl | rfl | rfl | rfl | rfl | rfl | rfl | rfl <;> rfl) (by unfold maxLen; omega) (by omega) hbase
  unfold Oper.wp execOp
  simp only [ho, resolve, invoke, builtin, Sem.run_bind, Sem.run_pure, Result.andThen_ok, List.map_toArray, List.map_cons, List.map_nil, hs, hx, hr]
  refine h v' w' ?_ h3 h5
  rw [rowE_snoc]
  exact h2

end Go.Proofs.YtepkfkfedmbmnaaGreatDoor

namespace Go.Proofs.YtepkfkfedmbmnaaGreatDoor
open Go.RowKit
set_option maxRecDepth 100000

abbrev knownL : List (List UInt8) := [[108, 101, 110, 103, 116, 104], [97, 98, 115], [99, 111, 97, 108, 101, 115, 99, 101], [99, 111, 117, 110, 116], [115, 117, 109], [109, 105, 110], [109, 97, 120]]
theorem idx_of (L : List (List UInt8)) (nm : List UInt8) : ∃ idx, idx ≤ L.length ∧ (∀ i, i < idx → (L.getD i [] == nm) = false) ∧ (idx < L.length → L.getD idx [] = nm) := by
  induction L with
  | nil => exact ⟨0, Nat.le_refl _, fun i h => by omega, fun h => by simp at h⟩
  | cons x r ih =>
    by_cases h : x = nm
    · exact ⟨0, by omega, fun i h => by omega, fun _ => by simpa using h⟩
    · obtain ⟨idx, h1, h2, h3⟩ := ih
      refine ⟨idx + 1, by simp; omega, fun i hi => ?_, fun hi => ?_⟩
      · match i with
        | 0 => simpa using h
        | i + 1 => simpa using h2 i (by omega)
      · simpa using h3 (by simp at hi; omega)
theorem knownF_no {nm : List UInt8} (h : ∀ i, i < 7 → (knownL.getD i [] == nm) = false) : knownF nm = false := by
  have h0 := h 0 (by omega)
  have h1 := h 1 (by omega)
  have h2 := h 2 (by omega)
  have h3 := h 3 (by omega)
  have h4 := h 4 (by omega)
  have h5 := h 5 (by omega)
  have h6 := h 6 (by omega)
  simp [knownL] at h0 h1 h2 h3 h4 h5 h6
  simp [knownF, sLength, sAbs, sCoalesce, sumNames, sCount, sSum, sMin, sMax, Ne.symm h0, Ne.symm h1, Ne.symm h2, Ne.symm h3, Ne.symm h4, Ne.symm h5, Ne.symm h6]
theorem bne_of_false {a b : List UInt8} (h : (a == b) = false) : (a != b) = true := by simp [bne, h]
theorem sevenI {i : Nat} (h : i < 7) : i = 0 ∨ i = 1 ∨ i = 2 ∨ i = 3 ∨ i = 4 ∨ i = 5 ∨ i = 6 := by omega
theorem knownF_yes {nm : List UInt8} {i : Nat} (hi : i < 7) (h : knownL.getD i [] = nm) : knownF nm = true := by
  subst h
  rcases sevenI hi with rfl | rfl | rfl | rfl | rfl | rfl | rfl <;> decide

theorem FrR.turn {W A : World} {g n cap k : Nat} (h : FrR W A g n cap k) (k' : Nat) : FrR W (set2 A W.heap.size (.slice (some ⟨g, 0, none⟩) n cap) (.int .i64 (k' : Int))) g n cap k' :=
  ⟨bl_set2 h.bl (Nat.le_refl _) _ _, set2_heap h.s _ _, (set2_other _ (by omega) _ _).trans h.r, (set2_other _ (by omega) _ _).trans h.x⟩
theorem FrR.grown {W A B : World} {g n cap k : Nat} {r : Option Nat} (h : FrR W A g n cap k) (hg : A.grownBy B r) (hr : ∀ j, r = some j → W.heap.size + 3 ≤ j) : FrR W B g n cap k := by
  have e : ∀ i, i < W.heap.size + 3 → B.heap[i]? = A.heap[i]? := fun i hi => hg.block i (by have := h.size; omega) (fun e => by have := hr i e.symm; omega)
  refine ⟨?_, (e _ (by omega)).trans h.s, (e _ (by omega)).trans h.r, (e _ (by omega)).trans h.x⟩
  exact Below.grown h.bl hg (by have := h.bl.size; omega) (fun j hj => by have := hr j hj; omega)
theorem keep_grown {A B : World} {a x : Nat} {oa ox : Obj} {r : Option Nat} (h : A.heap[a]? = some oa ∧ A.heap[x]? = some ox) (hg : A.grownBy B r) (ha : ∀ j, r = some j → a ≠ j) (hx : ∀ j, r = some j → x ≠ j) : B.heap[a]? = some oa ∧ B.heap[x]? = some ox :=
  ⟨(hg.block _ (Array.getElem?_eq_some_iff.1 h.1).1 (fun e => ha a e.symm rfl)).trans h.1, (hg.block _ (Array.getElem?_eq_some_iff.1 h.2).1 (fun e => hx x e.symm rfl)).trans h.2⟩
/-- What was read well lies ahead. -/
theorem rdR_past {ts : List Tok} (hT : TokOK ts) {f n k d : Nat} (hk : k < ts.length) {k' : Nat} {x : Ex} {c : Int} (h : Says (rdR ts f n k d) k' x c) : c = 0 → k < k' := by
  rintro rfl
  have h := h.yes
  unfold rdR at h
  split at h
  · exact parts_past hT hk h
  · cases h
theorem own_set2 {A : World} {base : Nat} {e : TypeId} {size n : Nat} {v : Value} {xs : List Value} (h : A.ownsRow base e size v n xs) {b : Nat} (hb : b < base) (y0 y1 : Value) : (set2 A b y0 y1).ownsRow base e size v n xs := by
  refine ⟨h.1, ?_⟩
  rcases h.2 with h0 | ⟨g, cap, cur, hv, hg, hh, r⟩
  · exact .inl h0
  · exact .inr ⟨g, cap, cur, hv, hg, (set2_other _ (by omega) _ _).trans hh, r⟩
theorem ReadsP.own {m : Nat} {v v' : Value} {A B : World} {sv : Value} {l : List Ex} (h : ReadsP (fun b => m ≤ b ∧ some b ≠ v.ownBlock) A sv l) (hg : A.grownBy B v.ownBlock) (hat : v'.ownBlock = v.ownBlock ∨ v'.ownBlock = some A.heap.size) : ReadsP (fun b => m ≤ b ∧ some b ≠ v'.ownBlock) B sv l :=
  (h.of (q := fun b => (m ≤ b ∧ some b ≠ v.ownBlock) ∧ some b ≠ v'.ownBlock) fun b hl hb => ⟨hb, by
    rcases hat with e | e
    · rw [e]; exact hb.2
    · rw [e]; intro h; injection h with h; omega⟩).keep (fun b hb => ⟨hb.1.1, hb.2⟩) fun b hb hl => hg.block b hl hb.1.2
--BEGIN1
set_option maxHeartbeats 8000000 in
theorem xcalled_any {f : Nat} (IH : ∀ f', f' ≤ f → AllR f') : CalledR f := by
  intro W g cap ts nm k d h hT hfew hk hd hne
  have H := Lib.hid h
  have HI := Lib.hid IH
  have HK := Lib.hid hk
  have HT := Lib.hid hT
  have hd1 : (d : Int) ≤ 60 := by omega
  obtain ⟨idx, hi7, hino, hiyes⟩ := idx_of knownL nm
  replace hi7 : idx ≤ 7 := hi7
  replace hiyes : idx < 7 → knownL.getD idx [] = nm := hiyes
  have HINO := Lib.hid hino
  have HIYES := Lib.hid hiyes
  obtain ⟨R, HR0⟩ : ∃ R, Hid (R = calledR ts (runR ts f) nm k d) := ⟨_, rfl⟩
  rw [← HR0.out] at hne ⊢
  have HNE := Lib.hid hne
  have HF0 := Lib.hid (FrR.start W g ts.length cap k)
  clear h IH hk hT hne hino hiyes
  go_enter Tryz.func95, Tryz.ntmps95
  go_upto_block 0 with fail
  go_cut [10] from 22 to 35 (fun t wc => t = .int .i64 (idx : Int) ∧ FrR W wc g ts.length cap k)
  case first =>
    go_wp2_with fail
    go_loop [10] (fun i => ∃ j : Nat, j ≤ idx ∧ i = .int .i64 (j : Int)) (fun i => 7 - (intOf i).toNat)
    case atStart => exact ⟨0, Nat.zero_le _, rfl⟩
    case round =>
      obtain ⟨j, hj, rfl⟩ := hrel
      by_cases hlt : j < idx
      · have hb := HINO.out j hlt
        rcases sevenI (show j < 7 by omega) with rfl | rfl | rfl | rfl | rfl | rfl | rfl
        all_goals
          simp only [knownL, List.getD_cons_zero, List.getD_cons_succ] at hb
          have hb2 := bne_of_false hb
          go_wp2
          go_round
          case rel => exact ⟨_, Nat.succ_le_of_lt hlt, rfl⟩
          case measure => simp [intOf]
      · obtain rfl : j = idx := by omega
        have HFk := Lib.hid (HF0.out.next ((Bl.refl _).alloc (.cells #[.string ⟨#[108, 101, 110, 103, 116, 104]⟩, .string ⟨#[97, 98, 115]⟩, .string ⟨#[99, 111, 97, 108, 101, 115, 99, 101]⟩, .string ⟨#[99, 111, 117, 110, 116]⟩, .string ⟨#[115, 117, 109]⟩, .string ⟨#[109, 105, 110]⟩, .string ⟨#[109, 97, 120]⟩] 9)))
        by_cases h7 : j = 7
        · subst h7
          go_wp2_with fail
          go_meet
          case rel => exact ⟨rfl, HFk.out⟩
        · have hy := HIYES.out (by omega)
          clear HINO HIYES HNE HR0 HI
          rcases sevenI (show j < 7 by omega) with rfl | rfl | rfl | rfl | rfl | rfl | rfl
          all_goals
            simp only [knownL, List.getD_cons_zero, List.getD_cons_succ] at hy
            subst hy
            go_wp2_with fail
            go_meet
            case rel => exact ⟨rfl, HFk.out⟩
  case rest =>
    obtain ⟨rfl, hF⟩ := hcut
    have HF1 := Lib.hid hF
    have hi7' : (idx : Int) ≤ 7 := by omega
    have hzc := hF.size
    clear hF HF0
    by_cases h7 : idx = 7
    · subst h7
      have hSay := Lib.hid (show Says R k zeroE 261 from .inr ⟨.inr rfl, by rw [HR0.out]; unfold calledR; rw [if_pos (knownF_no fun i hi => HINO.out i hi)]⟩)
      have HKK := HK
      obtain ⟨s0, s1, -, -, -⟩ := cells2 HF1.out.s
      obtain ⟨r0, r1, z0, z1, hlr⟩ := cells2 HF1.out.r
      obtain ⟨⟨e0, e1, e2, e3, e4, e5, e6, e7⟩, f0, f1, f2, f3, f4, f5, f6, f7⟩ := eight HF1.out.x
      go_wp2
      -- the end of a way that answers with an expression without arguments; w: the world ahead of the stores, F: its frame
      obtain ⟨⟨q0, q1⟩, q2, q3, q4, q5, q6, q7, q8, q9⟩ := fin_cells (b := W.heap.size + 1) (c := W.heap.size + 1 + 1) (by omega) HF1.out.r HF1.out.x (.slice (some ⟨g, 0, none⟩) ts.length cap) (.int .i64 (k : Int)) (.int .i64 0) (.int .i64 0) (.int .i64 0) (S []) (S []) (S []) (.int .i64 0) (.slice none 0 0)
      exact bodyPost_ret (v := .tuple #[RS g ts.length cap k, EV 0 (0, 0, []) [] [] 0 (.slice none 0 0), .int .i64 261]) (by simp [results, Tryz.results95, go_sem, q0, q1, q2, q3, q4, q5, q6, q7, q8, q9]) rfl ⟨k, .mk 0 (0, 0, []) [] [] 0 [], _, 261, HKK.out, ⟨_, rfl, ReadsP.nil _ _ none 0⟩, rfl, fin_bl HF1.out.bl (by omega) (by omega) _ _ _ _ _ _ _ _ _ _, hSay.out⟩
    · have hR := HR0.out
      unfold calledR at hR
      rw [if_neg (by rw [knownF_yes (show idx < 7 by omega) (HIYES.out (by omega))]; simp)] at hR
      have hi8 : ¬ (idx : Int) = 7 := by omega
      have hi9 : ((idx : Int) == 7) = false := by simpa using hi8
      obtain ⟨kq, bq, hTE, hq7⟩ : ∃ (kq : Nat) (bq : Bool), takeEnd g cap ts k [[42], [41]] = .returned (.tuple #[RS g ts.length cap kq, .bool bq]) ∧ ((bq = true ∧ takeK ts k [[42], [41]] = some kq) ∨ (bq = false ∧ takeK ts k [[42], [41]] = none)) := by
        cases ht : takeK ts k [[42], [41]] with
        | none => exact ⟨k, false, takeEnd_none ht, .inr ⟨rfl, rfl⟩⟩
        | some kq => exact ⟨kq, true, takeEnd_some ht, .inl ⟨rfl, rfl⟩⟩
      have HTE := Lib.hid hTE
      by_cases hgo : bq = true ∧ nm = sCount
      · obtain ⟨rfl, rfl⟩ := hgo
        have ht : takeK ts k [[42], [41]] = some kq := by
          rcases hq7 with ⟨_, h⟩ | ⟨h, _⟩
          · exact h
          · cases h
        rw [if_pos rfl, ht] at hR
        have hSay := Lib.hid (show Says R kq (.mk 5 (0, 0, []) [] sCount 0 []) 0 from .inl ⟨rfl, hR⟩)
        have HKK := Lib.hid (takeK_le HT.out HK.out ht).2
        clear hR hTE hq7 ht
        obtain ⟨s0, s1, -, -, -⟩ := cells2 HF1.out.s
        go_wp2_with fail
        refine (rTake_made H.out (HF1.out.bl.alloc _) hfew HK.out 2 [[42], [41]] rfl (by simp) (heap_new _ _)).mono ?_
        rintro e w3 ⟨rfl, hb3⟩
        rw [HTE.out]
        have HF3 := Lib.hid (HF1.out.next ((((Bl.refl _).alloc _).call hb3).alloc (.cells #[.slice (some ⟨g, 0, none⟩) ts.length cap, .int .i64 (kq : Int)] 46)))
        have hz3 := HF3.out.size
        clear hb3 s0 s1
        obtain ⟨r0, r1, z0, z1, hlr⟩ := cells2 HF3.out.r
        obtain ⟨⟨e0, e1, e2, e3, e4, e5, e6, e7⟩, f0, f1, f3, f4, f5, f6, f7, f8⟩ := eight HF3.out.x
        unfold sCount at *
        go_wp2
        -- the end of a way that answers with an expression without arguments; w: the world ahead of the stores, F: its frame
        obtain ⟨⟨q0, q1⟩, q2, q3, q4, q5, q6, q7, q8, q9⟩ := fin_cells (b := W.heap.size + 1) (c := W.heap.size + 1 + 1) (by omega) HF3.out.r HF3.out.x (.slice (some ⟨g, 0, none⟩) ts.length cap) (.int .i64 (kq : Int)) (.int .i64 5) (.int .i64 0) (.int .i64 0) (S []) (S []) (S [99, 111, 117, 110, 116]) (.int .i64 0) (.slice none 0 0)
        exact bodyPost_ret (v := .tuple #[RS g ts.length cap kq, EV 5 (0, 0, []) [] [99, 111, 117, 110, 116] 0 (.slice none 0 0), .int .i64 0]) (by simp [results, Tryz.results95, go_sem, q0, q1, q2, q3, q4, q5, q6, q7, q8, q9]) rfl ⟨kq, .mk 5 (0, 0, []) [] [99, 111, 117, 110, 116] 0 [], _, 0, HKK.out, ⟨_, rfl, ReadsP.nil _ _ none 0⟩, rfl, fin_bl HF3.out.bl (by omega) (by omega) _ _ _ _ _ _ _ _ _ _, hSay.out⟩
      · have hargs : R = runR ts f (.args nm k d []) := by
          rw [hR]
          split
          · rename_i hc
            rcases hq7 with ⟨rfl, h⟩ | ⟨rfl, h⟩
            · exact absurd ⟨rfl, hc⟩ hgo
            · rw [h]
          · rfl
        have HAR := Lib.hid hargs
        have hcases : bq = false ∨ bq = true ∧ ((nm == [99, 111, 117, 110, 116]) = false ∧ ¬ nm = [99, 111, 117, 110, 116]) := by
          cases bq
          · exact .inl rfl
          · have hc0 : ¬ nm = [99, 111, 117, 110, 116] := fun e => hgo ⟨rfl, e⟩
            exact .inr ⟨rfl, by simpa using hc0, hc0⟩
        clear hR hTE hq7 hgo hargs
        obtain ⟨s0, s1, -, -, -⟩ := cells2 HF1.out.s
        go_wp2_with fail
        refine (rTake_made H.out (HF1.out.bl.alloc _) hfew HK.out 2 [[42], [41]] rfl (by simp) (heap_new _ _)).mono ?_
        rintro e w3 ⟨rfl, hb3⟩
        rw [HTE.out]
        have HF3 := Lib.hid (HF1.out.next ((((Bl.refl _).alloc _).call hb3).alloc (.cells #[.slice (some ⟨g, 0, none⟩) ts.length cap, .int .i64 (kq : Int)] 46)))
        have hz3 := HF3.out.size
        clear hb3 s0 s1
        rcases hcases with rfl | ⟨rfl, hc1, hc2⟩
        all_goals
          go_wp2_with fail
        all_goals
          go_loopw [13] (fun lv wr => ∃ (kk : Nat) (acc : List (Ex × Value)) (v0 : Value), lv = v0 ∧ kk < ts.length ∧ acc.length ≤ kk ∧ Hid (FrR W wr g ts.length cap kk) ∧ Hid (wr.ownsRow (W.heap.size + 3) 30 8 lv acc.length (rowE acc)) ∧
              Hid (∀ q ∈ acc, ReadsP (fun b => W.heap.size + 3 ≤ b ∧ some b ≠ lv.ownBlock) wr q.2 q.1.args) ∧ Hid (∃ f', f' ≤ f ∧ R = runR ts f' (.args nm kk d (acc.map (·.1))))) (fun _ wr => ts.length - natAt wr W.heap.size)
          case atStart => exact ⟨k, [], _, rfl, HK.out, by simp, HF3.out, World.ownsRow_nil _ _ _ _, fun q hq => by simp at hq, f, Nat.le_refl _, HAR.out⟩
          case round =>
            obtain ⟨kk, acc, v0, hv0, hkk, hacc, HFw, HOW, HTR, HFF⟩ := hrel
            subst hv0
            obtain ⟨f', hf', hRf⟩ := HFF.out
            obtain ⟨f2, rfl⟩ : ∃ f2, f' = f2 + 1 := by
              cases f' with
              | zero => exact absurd hRf HNE.out
              | succ m => exact ⟨m, rfl⟩
            replace hRf : R = stepR ts (runR ts f2) (.args nm kk d (acc.map (·.1))) := hRf
            rw [step_args, ← rdR_deeper] at hRf
            have hne1 : rdR ts f2 0 kk (d + 1) ≠ .out := by
              have := HNE.out
              rw [hRf] at this
              exact bind_out this
            have HN := Lib.hid hne1
            have HRF := Lib.hid hRf
            have hzw := HFw.out.size
            obtain ⟨s0, s1, -, -, hls⟩ := cells2 HFw.out.s
            clear hRf hne1 HFF
            go_wp2_with fail
            refine (HI.out f2 (by omega) _ g cap ts 0 kk (d + 1) 0 (d + 1) rfl rfl (H.out.bl HFw.out.bl) HT.out hfew hkk (by omega) (by omega) HN.out).mono ?_
            rintro e w4 ⟨k', x, v, c, hk', ⟨sv, rfl, hA⟩, rfl, hb4, hs⟩
            have HF4 := Lib.hid (HFw.out.next hb4)
            obtain ⟨xk, ⟨x1, x2, x3⟩, xt, xn, xo, xa⟩ := x
            obtain ⟨asv, csv, rfl⟩ := hA.shape
            simp only [Ex.k, Ex.v, Ex.t, Ex.n, Ex.o, Ex.args] at hA ⊢
            have hz4 := hb4.size
            have hzF := HF4.out.size
            have hlow := Lib.hid HOW.out.lt
            have HKK := Lib.hid hk'
            have HS := Lib.hid hs
            have hbq : Bl w4 ((w4.alloc (.cells #[.slice (some ⟨g, 0, none⟩) ts.length cap, .int .i64 (k' : Int)] 46)).alloc (.cells #[.int .i64 xk, .int .i64 x1, .int .i64 x2, S x3, S xt, S xn, .int .i64 xo, .slice asv xa.length csv] 30)) := ((Bl.refl w4).alloc _).alloc _
            have HAXq := Lib.hid (show ((w4.alloc (.cells #[.slice (some ⟨g, 0, none⟩) ts.length cap, .int .i64 (k' : Int)] 46)).alloc (.cells #[.int .i64 xk, .int .i64 x1, .int .i64 x2, S x3, S xt, S xn, .int .i64 xo, .slice asv xa.length csv] 30)).heap[w4.heap.size]? = some (.cells #[.slice (some ⟨g, 0, none⟩) ts.length cap, .int .i64 (k' : Int)] 46 (0, 0)) ∧ ((w4.alloc (.cells #[.slice (some ⟨g, 0, none⟩) ts.length cap, .int .i64 (k' : Int)] 46)).alloc (.cells #[.int .i64 xk, .int .i64 x1, .int .i64 x2, S x3, S xt, S xn, .int .i64 xo, .slice asv xa.length csv] 30)).heap[w4.heap.size + 1]? = some (.cells #[.int .i64 xk, .int .i64 x1, .int .i64 x2, S x3, S xt, S xn, .int .i64 xo, .slice asv xa.length csv] 30 (0, 0)) from ⟨(heap_old _ _ (by simp)).trans (heap_new w4 _), heap_new' _ _ (by simp)⟩)
            have HAq := Lib.hid (show ReadsP (fun b => W.heap.size + 3 ≤ b ∧ some b ≠ u13.ownBlock) ((w4.alloc (.cells #[.slice (some ⟨g, 0, none⟩) ts.length cap, .int .i64 (k' : Int)] 46)).alloc (.cells #[.int .i64 xk, .int .i64 x1, .int .i64 x2, S x3, S xt, S xn, .int .i64 xo, .slice asv xa.length csv] 30)) (.slice asv xa.length csv) xa from (hA.of fun b hl (hb : _ ≤ b) => ⟨by omega, fun e => by have := (hlow.out b e.symm).2; omega⟩).bl hbq)
            have HFq := Lib.hid (HF4.out.next hbq)
            have HOWq := Lib.hid (ownsRow_bl (hb4.call hbq) HOW.out)
            have HTRq := Lib.hid (show ∀ q ∈ acc, ReadsP (fun b => W.heap.size + 3 ≤ b ∧ some b ≠ u13.ownBlock) ((w4.alloc (.cells #[.slice (some ⟨g, 0, none⟩) ts.length cap, .int .i64 (k' : Int)] 46)).alloc (.cells #[.int .i64 xk, .int .i64 x1, .int .i64 x2, S x3, S xt, S xn, .int .i64 xo, .slice asv xa.length csv] 30)) q.2 q.1.args from fun q hq => (HTR.out q hq).bl (hb4.call hbq))
            have hlk := rdR_past HT.out hkk hs
            clear hA hs hk' hb4 hbq s0 s1
            by_cases hc0 : c = 0
            · subst hc0
              have hRy := HS.out.yes
              have hR3 := HRF.out
              rw [hRy] at hR3
              simp only [Res.bind] at hR3
              clear hRy
              go_wp2_with fail
              refine wp_region_noPanic (wp_region_sd (fun B => B.heap[w4.heap.size]? = some (.cells #[.slice (some ⟨g, 0, none⟩) ts.length cap, .int .i64 (k' : Int)] 46 (0, 0)) ∧ B.heap[w4.heap.size + 1]? = some (.cells #[.int .i64 xk, .int .i64 x1, .int .i64 x2, S x3, S xt, S xn, .int .i64 xo, .slice asv xa.length csv] 30 (0, 0))) ((.take 0 (.take 1 (.take 4 (.one 2 (.one 3 (.take 5 (.one 6 .done)))))))) (by kernel_rfl) (by kernel_rfl) (by kernel_rfl) (fun _ _ _ _ _ h => h) (keep_two HAXq.out ((Bl.refl _).drew)) ?_) -- wp_region_sc 
              intro wd HWD hHeld
              refine sc_take' rfl (by rfl) (by intro w hSw; (try dsimp only at hSw); obtain ⟨a0, a1, -, -, -⟩ := cells2 hSw.1; obtain ⟨⟨e0, e1, e2, e3, e4, e5, e6, e7⟩, -⟩ := eight hSw.2; go_simp; (try (first | with_reducible rfl | rfl))) ?_; (try simp only [Act.put, List.setIfInBounds_toArray, List.set_cons_zero, List.set_cons_succ])
              refine sc_take' rfl (by rfl) (by intro w hSw; (try dsimp only at hSw); obtain ⟨a0, a1, -, -, -⟩ := cells2 hSw.1; obtain ⟨⟨e0, e1, e2, e3, e4, e5, e6, e7⟩, -⟩ := eight hSw.2; go_simp; (try (first | with_reducible rfl | rfl))) ?_; (try simp only [Act.put, List.setIfInBounds_toArray, List.set_cons_zero, List.set_cons_succ])
              refine sc_take' rfl (by rfl) (by intro w hSw; (try dsimp only at hSw); obtain ⟨a0, a1, -, -, -⟩ := cells2 hSw.1; obtain ⟨⟨e0, e1, e2, e3, e4, e5, e6, e7⟩, -⟩ := eight hSw.2; go_simp; (try (first | with_reducible rfl | rfl))) ?_; (try simp only [Act.put, List.setIfInBounds_toArray, List.set_cons_zero, List.set_cons_succ])
              refine sc_call' rfl (fun K hK => ?_); go_simp; refine hK.out _ _ ((keep_two hHeld ((Bl.refl _).alloc _))) (fun hHeld2 => ?_); clear hHeld hK K; have hHeld := hHeld2; clear hHeld2
              refine sc_call' rfl (fun K hK => ?_); rw [if_pos (by rfl)]; refine append_ex (.tmp 69) (.tmp 71) rfl (W.heap.size + 3) u13 acc rfl ((ownsRow_bl HWD.out HOWq.out).alloc _) wd.heap.size (.mk xk (x1, x2, x3) xt xn xo xa) asv xa.length csv rfl (heap_new' _ _ rfl) (by omega) (by have := (HFq.out.next HWD.out).size; rw [World.size_alloc]; omega) ?_; intro v' w5 hown5 hg5 hat; refine hK.out _ _ (keep_grown hHeld hg5 (fun j e h => by subst h; have := (hlow.out _ e).2; omega) (fun j e h => by subst h; have := (hlow.out _ e).2; omega)) (fun hHeld2 => ?_); clear hHeld hK K; have hHeld := hHeld2; clear hHeld2
              have HF5 := Lib.hid (((HFq.out.next HWD.out).next ((Bl.refl _).alloc _)).grown hg5 (fun j e => (hlow.out j e).1))
              have HTR5 := Lib.hid (show ∀ q ∈ acc ++ [((Ex.mk xk (x1, x2, x3) xt xn xo xa), .slice asv xa.length csv)], ReadsP (fun b => W.heap.size + 3 ≤ b ∧ some b ≠ v'.ownBlock) w5 q.2 q.1.args from fun q hq => by rcases List.mem_append.1 hq with hq | hq; exact (((HTRq.out q hq).bl HWD.out).bl ((Bl.refl _).alloc _)).own hg5 hat; obtain rfl := List.mem_singleton.1 hq; exact ((HAq.out.bl HWD.out).bl ((Bl.refl _).alloc _)).own hg5 hat)
              obtain ⟨g5, cap5, rfl⟩ := own_slice hown5
              have HOW5 := Lib.hid hown5
              have hz5 := HF5.out.size
              clear hown5 hg5 hat
              refine sc_take' rfl (by rfl) (by intro w hSw; (try dsimp only at hSw); obtain ⟨a0, a1, -, -, -⟩ := cells2 hSw.1; obtain ⟨⟨e0, e1, e2, e3, e4, e5, e6, e7⟩, -⟩ := eight hSw.2; go_simp; (try (first | with_reducible rfl | rfl))) ?_; (try simp only [Act.put, List.setIfInBounds_toArray, List.set_cons_zero, List.set_cons_succ])
              obtain ⟨r0, r1, z0, z1, hlr⟩ := cells2 HF5.out.s
              refine sc_call' rfl (fun K hK => ?_); go_simp; refine hK.out _ _ ((keep_set2 (b := W.heap.size) hHeld (by omega) (by omega))) (fun hHeld2 => ?_); clear hHeld hK K; have hHeld := hHeld2; clear hHeld2
              clear r0 r1 z0 z1
              refine sc_nil (NoPanic.normal ?_)
              clear hHeld
              have HFs := Lib.hid (HF5.out.turn k')
              have HOWs := Lib.hid (own_set2 HOW5.out (b := W.heap.size) (by omega) (.slice (some ⟨g, 0, none⟩) ts.length cap) (.int .i64 (k' : Int)))
              have HTRs := Lib.hid (show ∀ q ∈ acc ++ [((Ex.mk xk (x1, x2, x3) xt xn xo xa), .slice asv xa.length csv)], ReadsP (fun b => W.heap.size + 3 ≤ b ∧ some b ≠ Value.ownBlock (.slice (some ⟨g5, 0, none⟩) (acc.length + 1) cap5)) (set2 w5 W.heap.size (.slice (some ⟨g, 0, none⟩) ts.length cap) (.int .i64 (k' : Int))) q.2 q.1.args from fun q hq => (HTR5.out q hq).set2' (fun i hi => by have := hi.1; omega) _ _)
              have hmap : (acc ++ [((Ex.mk xk (x1, x2, x3) xt xn xo xa), Value.slice asv xa.length csv)]).map (fun q : Ex × Value => q.1) = acc.map (fun q : Ex × Value => q.1) ++ [(Ex.mk xk (x1, x2, x3) xt xn xo xa)] := by simp
              have hlen2 : (acc ++ [((Ex.mk xk (x1, x2, x3) xt xn xo xa), Value.slice asv xa.length csv)]).length = acc.length + 1 := by simp
              rw [← hmap] at hR3
              generalize acc ++ [((Ex.mk xk (x1, x2, x3) xt xn xo xa), Value.slice asv xa.length csv)] = acc2 at *
              obtain ⟨k2, b2, hTE2, hq2⟩ : ∃ (k2 : Nat) (b2 : Bool), takeEnd g cap ts k' [[44]] = .returned (.tuple #[RS g ts.length cap k2, .bool b2]) ∧ ((b2 = true ∧ takeK ts k' [[44]] = some k2) ∨ (b2 = false ∧ takeK ts k' [[44]] = none)) := by
                cases ht : takeK ts k' [[44]] with
                | none => exact ⟨k', false, takeEnd_none ht, .inr ⟨rfl, rfl⟩⟩
                | some k2 => exact ⟨k2, true, takeEnd_some ht, .inl ⟨rfl, rfl⟩⟩
              have HTE2 := Lib.hid hTE2
              clear hTE2 hmap HF5 HOW5 HTR5
              obtain ⟨s0, s1, -, -, -⟩ := cells2 HFs.out.s
              by_cases hgo2 : b2 = true ∧ nm = [99, 111, 97, 108, 101, 115, 99, 101]
              · obtain ⟨rfl, hco⟩ := hgo2
                have ht2 : takeK ts k' [[44]] = some k2 := by
                  rcases hq2 with ⟨_, h⟩ | ⟨h, _⟩
                  · exact h
                  · cases h
                have hR4 := Lib.hid (show R = runR ts f2 (.args nm k2 d (acc2.map (·.1))) from by rw [hR3, if_pos (show nm = sCoalesce from hco), ht2])
                have hk2 := take1_le HT.out HKK.out ht2
                clear hq2 hR3 ht2
                subst hco
                go_wp2_with fail
                refine (rTake_made H.out (HFs.out.bl.alloc _) hfew HKK.out 1 [[44]] rfl (by simp) (heap_new' _ _ (by simp))).mono ?_
                rintro e w6 ⟨rfl, hb6⟩
                rw [HTE2.out]
                have hbq := (((Bl.refl _).alloc _).call hb6).alloc (.cells #[.slice (some ⟨g, 0, none⟩) ts.length cap, .int .i64 (k2 : Int)] 46)
                have HF6 := Lib.hid (HFs.out.next hbq)
                have HOW6 := Lib.hid (ownsRow_bl hbq HOWs.out)
                have HTR6 := Lib.hid (show ∀ q ∈ acc2, ReadsP _ _ q.2 q.1.args from fun q hq => (HTRs.out q hq).bl hbq)
                clear s0 s1 hb6 hbq
                obtain ⟨r0, r1, z0, z1, hlr⟩ := cells2 HF6.out.s
                go_wp2
                go_roundw
                case rel =>
                  refine ⟨k2, acc2, _, rfl, hk2.2, by have := hlk trivial; omega, HF6.out.turn k2, ?_, fun q hq => (HTR6.out q hq).set2' (fun i hi => by have := hi.1; omega) _ _, f2, by omega, hR4.out⟩
                  show World.ownsRow _ _ _ _ _ _ _
                  rw [hlen2]
                  exact own_set2 HOW6.out (b := W.heap.size) (by omega) _ _
                case measure =>
                  have n1 := natAt_of HFw.out.s
                  have n2 := natAt_of (HF6.out.turn k2).s
                  have := hlk trivial
                  rw [n1]
                  show ts.length - natAt (set2 _ W.heap.size (.slice (some ⟨g, 0, none⟩) ts.length cap) (.int .i64 (k2 : Int))) W.heap.size < _
                  rw [n2]
                  omega
              · have hR4 : R = match takeK ts k' [[41]] with
                  | some k9 => .good k9 (callE nm (acc2.map fun q : Ex × Value => q.1))
                  | none => .bad 261 := by
                  rw [hR3]
                  by_cases hco : nm = sCoalesce
                  · rw [if_pos hco]
                    rcases hq2 with ⟨rfl, _⟩ | ⟨_, h⟩
                    · exact absurd ⟨rfl, hco⟩ hgo2
                    · rw [h]
                      rfl
                  · rw [if_neg hco]
                    rfl
                have hcases2 : b2 = false ∨ b2 = true ∧ ((nm == [99, 111, 97, 108, 101, 115, 99, 101]) = false ∧ (nm != [99, 111, 97, 108, 101, 115, 99, 101]) = true) := by
                  cases b2
                  · exact .inl rfl
                  · have hc0 : ¬ nm = [99, 111, 97, 108, 101, 115, 99, 101] := fun e => hgo2 ⟨rfl, e⟩
                    exact .inr ⟨rfl, by simpa using hc0, by simpa using hc0⟩
                clear hq2 hR3 hgo2
                go_wp2_with fail
                refine (rTake_made H.out (HFs.out.bl.alloc _) hfew HKK.out 1 [[44]] rfl (by simp) (heap_new' _ _ (by simp))).mono ?_
                rintro e w6 ⟨rfl, hb6⟩
                rw [HTE2.out]
                have hbq := (((Bl.refl _).alloc _).call hb6).alloc (.cells #[.slice (some ⟨g, 0, none⟩) ts.length cap, .int .i64 (k2 : Int)] 46)
                have HF6 := Lib.hid (HFs.out.next hbq)
                have HOW6 := Lib.hid (ownsRow_bl hbq HOWs.out)
                have HTR6 := Lib.hid (show ∀ q ∈ acc2, ReadsP _ _ q.2 q.1.args from fun q hq => (HTRs.out q hq).bl hbq)
                clear s0 s1 hb6 hbq
                obtain ⟨s0, s1, -, -, -⟩ := cells2 HF6.out.s
                rcases hcases2 with rfl | ⟨rfl, hc1, hc2⟩
                all_goals
                  cases h41 : takeK ts k' [[41]] with
                  | none =>
                    rw [h41] at hR4
                    have hSay := Lib.hid (show Says R k' zeroE 261 from .inr ⟨.inr rfl, hR4⟩)
                    have HE9 := Lib.hid (takeEnd_none (g := g) (cap := cap) h41)
                    clear hR4 h41
                    go_wp2_with fail
                    refine (rTake_made H.out (HF6.out.bl.alloc _) hfew HKK.out 1 [[41]] rfl (by simp) (heap_new' _ _ (by simp))).mono ?_
                    rintro e w7 ⟨rfl, hb7⟩
                    rw [HE9.out]
                    have HF7 := Lib.hid (HF6.out.next ((((Bl.refl _).alloc _).call hb7).alloc (.cells #[.slice (some ⟨g, 0, none⟩) ts.length cap, .int .i64 (k' : Int)] 46)))
                    have hz7 := HF7.out.size
                    clear s0 s1 hb7
                    obtain ⟨s0, s1, -, -, -⟩ := cells2 HF7.out.s
                    obtain ⟨r0, r1, z0, z1, hlr⟩ := cells2 HF7.out.r
                    obtain ⟨⟨e0, e1, e2, e3, e4, e5, e6, e7⟩, f0, f1, f3, f4, f5, f6, f7, f8⟩ := eight HF7.out.x
                    go_wp2
                    -- the end of a way that answers with an expression without arguments; w: the world ahead of the stores, F: its frame
                    obtain ⟨⟨q0, q1⟩, q2, q3, q4, q5, q6, q7, q8, q9⟩ := fin_cells (b := W.heap.size + 1) (c := W.heap.size + 1 + 1) (by omega) HF7.out.r HF7.out.x (.slice (some ⟨g, 0, none⟩) ts.length cap) (.int .i64 (k' : Int)) (.int .i64 0) (.int .i64 0) (.int .i64 0) (S []) (S []) (S []) (.int .i64 0) (.slice none 0 0)
                    exact bodyPost_ret (v := .tuple #[RS g ts.length cap k', EV 0 (0, 0, []) [] [] 0 (.slice none 0 0), .int .i64 261]) (by simp [results, Tryz.results95, go_sem, q0, q1, q2, q3, q4, q5, q6, q7, q8, q9]) rfl ⟨k', .mk 0 (0, 0, []) [] [] 0 [], _, 261, HKK.out, ⟨_, rfl, ReadsP.nil _ _ none 0⟩, rfl, fin_bl HF7.out.bl (by omega) (by omega) _ _ _ _ _ _ _ _ _ _, hSay.out⟩
                  | some k9 =>
                    rw [h41] at hR4
                    have hk9 := take1_le HT.out HKK.out h41
                    have HE9 := Lib.hid (takeEnd_some (g := g) (cap := cap) h41)
                    have hSay := Lib.hid (show Says R k9 (callE nm (acc2.map fun q : Ex × Value => q.1)) 0 from .inl ⟨rfl, hR4⟩)
                    clear hR4 h41
                    go_wp2_with fail
                    refine (rTake_made H.out (HF6.out.bl.alloc _) hfew HKK.out 1 [[41]] rfl (by simp) (heap_new' _ _ (by simp))).mono ?_
                    rintro e w7 ⟨rfl, hb7⟩
                    rw [HE9.out]
                    have hbq := (((Bl.refl _).alloc _).call hb7).alloc (.cells #[.slice (some ⟨g, 0, none⟩) ts.length cap, .int .i64 (k9 : Int)] 46)
                    have HF7 := Lib.hid (HF6.out.next hbq)
                    have HOW7 := Lib.hid (ownsRow_bl hbq HOW6.out)
                    have HTR7 := Lib.hid (show ∀ q ∈ acc2, ReadsP _ _ q.2 q.1.args from fun q hq => (HTR6.out q hq).bl hbq)
                    have hz7 := (HF6.out.next (((Bl.refl _).alloc _).call hb7)).size
                    clear s0 s1 hb7 hbq
                    have HT9 := Lib.hid (show ReadsP (fun b => W.heap.size + 3 ≤ b ∧ True) (w7.alloc (.cells #[.slice (some ⟨g, 0, none⟩) ts.length cap, .int .i64 (k9 : Int)] 46)) (.slice (some ⟨g5, 0, none⟩) (acc.length + 1) cap5) (acc2.map fun q : Ex × Value => q.1) from by
                      have h := HOW7.out
                      have hg5 := (h.lt g5 rfl).1
                      rw [← hlen2] at h ⊢
                      exact p_own h ⟨hg5, trivial⟩ fun q hq => (HTR7.out q hq).of fun b _ hb => ⟨hb.1, trivial⟩)
                    have H19 := Lib.hid (And.intro (heap_new w7 (.cells #[.slice (some ⟨g, 0, none⟩) ts.length cap, .int .i64 (k9 : Int)] 46)) HF7.out.s)
                    clear HOWs HOW6 HOW7 HTRs HTR6 HTR7 HTRq HOWq HAXq HAq HOW HTR
                    have hyes := HIYES.out (by omega)
                    by_cases h2 : idx < 2
                    · have hop : callE nm (acc2.map fun q : Ex × Value => q.1) = opE (19 + (idx : Int)) (acc2.map fun q : Ex × Value => q.1) := by
                        have h01 : idx = 0 ∨ idx = 1 := by omega
                        rcases h01 with rfl | rfl
                        · rw [← hyes]; rfl
                        · rw [← hyes]; rfl
                      have HSay := Lib.hid (show Says R k9 (opE (19 + (idx : Int)) (acc2.map fun q : Ex × Value => q.1)) 0 from by rw [← hop]; exact hSay.out)
                      have hi2 : (idx : Int) < 2 := by omega
                      clear hop hyes hSay
                      go_wp2_with fail
                      have hwr : IntKind.i64.wrap (19 + (idx : Int)) = 19 + (idx : Int) := by
                        have h01 : idx = 0 ∨ idx = 1 := by omega
                        rcases h01 with h | h <;> rw [h] <;> rfl
                      refine wp_region_noPanic (wp_region_sd (fun B => B.heap[w7.heap.size]? = some (.cells #[.slice (some ⟨g, 0, none⟩) ts.length cap, .int .i64 (k9 : Int)] 46 (0, 0)) ∧ B.heap[W.heap.size]? = some (.cells #[.slice (some ⟨g, 0, none⟩) ts.length cap, .int .i64 (k' : Int)] 46 (0, 0))) ((.take 0 (.take 1 (.take 2 (.take 3 (.one 4 (.one 5 (.one 6 (.take 7 .done))))))))) (by kernel_rfl) (by kernel_rfl) (by kernel_rfl) (fun _ _ _ _ _ h => h) (keep_two H19.out ((Bl.refl _).drew)) ?_) -- wp_region_sc 
                      intro wd HWD hHeld
                      refine sc_take' rfl (by rfl) (by intro w hSw; (try dsimp only at hSw); obtain ⟨a0, a1, -, -, -⟩ := cells2 hSw.1; go_simp; (try (first | with_reducible rfl | rfl))) ?_; (try simp only [Act.put, List.setIfInBounds_toArray, List.set_cons_zero, List.set_cons_succ])
                      refine sc_take' rfl (by rfl) (by intro w hSw; (try dsimp only at hSw); obtain ⟨a0, a1, -, -, -⟩ := cells2 hSw.1; go_simp; (try (first | with_reducible rfl | rfl))) ?_; (try simp only [Act.put, List.setIfInBounds_toArray, List.set_cons_zero, List.set_cons_succ])
                      refine sc_take' rfl (by rfl) (by intro w hSw; (try dsimp only at hSw); obtain ⟨a0, a1, -, -, -⟩ := cells2 hSw.1; go_simp; (try (first | with_reducible rfl | rfl))) ?_; (try simp only [Act.put, List.setIfInBounds_toArray, List.set_cons_zero, List.set_cons_succ])
                      refine sc_take' rfl (by rfl) (by intro w hSw; (try dsimp only at hSw); obtain ⟨a0, a1, -, -, -⟩ := cells2 hSw.1; go_simp; (try (first | with_reducible rfl | rfl))) ?_; (try simp only [Act.put, List.setIfInBounds_toArray, List.set_cons_zero, List.set_cons_succ])
                      refine sc_call' rfl (fun K hK => ?_); go_simp; ((with_reducible refine (xOf_any (19 + (idx : Int)) _ ⟨_, _, _, rfl⟩ _).mono ?_); rintro e w8 ⟨rfl, hb⟩); go_wp2_with fail; refine hK.out _ _ (keep_two hHeld hb) (fun hHeld2 => ?_); clear hHeld hK K; have hHeld := hHeld2; clear hHeld2
                      have HF8 := Lib.hid ((HF7.out.next HWD.out).next hb)
                      have HT8 := Lib.hid ((HT9.out.bl HWD.out).bl hb)
                      clear hb
                      obtain ⟨r0, r1, z0, z1, hlr⟩ := cells2 HF8.out.r
                      refine sc_call' rfl (fun K hK => ?_); go_simp; refine hK.out _ _ ((keep_set2 (b := W.heap.size + 1) hHeld (by omega) (by omega))) (fun hHeld2 => ?_); clear hHeld hK K; have hHeld := hHeld2; clear hHeld2
                      clear r0 r1 z0 z1
                      obtain ⟨⟨e0, e1, e2, e3, e4, e5, e6, e7⟩, f0, f1, f2, f3, f4, f5, f6, f7⟩ := eight ((set2_other w8 (b := W.heap.size + 1) (i := W.heap.size + 1 + 1) (by omega) (.slice (some ⟨g, 0, none⟩) ts.length cap) (.int .i64 (k9 : Int))).trans HF8.out.x)
                      refine sc_call' rfl (fun K hK => ?_); go_simp; refine hK.out _ _ ((keep_set8 (b := W.heap.size + 1 + 1) hHeld (by omega) (by omega))) (fun hHeld2 => ?_); clear hHeld hK K; have hHeld := hHeld2; clear hHeld2
                      refine sc_take' rfl (by rfl) (by intro w hSw; (try dsimp only at hSw); obtain ⟨a0, a1, -, -, -⟩ := cells2 hSw.1; go_simp; (try (first | with_reducible rfl | rfl))) ?_; (try simp only [Act.put, List.setIfInBounds_toArray, List.set_cons_zero, List.set_cons_succ])
                      refine sc_nil (NoPanic.normal ?_)
                      go_wp2
                      obtain ⟨⟨q0, q1⟩, q2, q3, q4, q5, q6, q7, q8, q9⟩ := fin_cells (b := W.heap.size + 1) (c := W.heap.size + 1 + 1) (by omega) HF8.out.r HF8.out.x (.slice (some ⟨g, 0, none⟩) ts.length cap) (.int .i64 (k9 : Int)) (.int .i64 3) (.int .i64 0) (.int .i64 0) (S []) (S []) (S []) (.int .i64 (19 + (idx : Int))) (.slice (some ⟨g5, 0, none⟩) (acc.length + 1) cap5)
                      have hX : ReadsXP _ _ (opE (19 + (idx : Int)) (acc2.map fun q : Ex × Value => q.1)) (EV 3 (0, 0, []) [] [] (19 + (idx : Int)) (.slice (some ⟨g5, 0, none⟩) (acc.length + 1) cap5)) := readsX_op _ HT8.out
                      exact bodyPost_ret (v := .tuple #[RS g ts.length cap k9, EV 3 (0, 0, []) [] [] (19 + (idx : Int)) (.slice (some ⟨g5, 0, none⟩) (acc.length + 1) cap5), .int .i64 0]) (by simp [results, Tryz.results95, go_sem, q0, q1, q2, q3, q4, q5, q6, q7, q8, q9]) rfl ⟨k9, _, _, 0, hk9.2, fin_readsP hX (fun i hi => ⟨by have := hi.1; omega, by have := hi.1; omega, by have := hi.1; omega⟩) _ _ _ _ _ _ _ _ _ _, rfl, fin_bl HF8.out.bl (by omega) (by omega) _ _ _ _ _ _ _ _ _ _, HSay.out⟩
                    have hi2 : ¬ (idx : Int) < 2 := by omega
                    by_cases h3 : idx = 2
                    · have hop : callE nm (acc2.map fun q : Ex × Value => q.1) = .mk 4 (0, 0, []) [] [] 0 (acc2.map fun q : Ex × Value => q.1) := by
                        subst h3
                        rw [← hyes]; rfl
                      have HSay := Lib.hid (show Says R k9 (.mk 4 (0, 0, []) [] [] 0 (acc2.map fun q : Ex × Value => q.1)) 0 from by rw [← hop]; exact hSay.out)
                      have hi3 : (idx : Int) = 2 := by omega
                      have hi4 : ((idx : Int) == 2) = true := by simpa using hi3
                      clear hop hyes hSay hi3
                      -- an answer with the arguments that were read
                      obtain ⟨s0, s1, -, -, -⟩ := cells2 HF7.out.s
                      obtain ⟨r0, r1, z0, z1, hlr⟩ := cells2 HF7.out.r
                      obtain ⟨⟨e0, e1, e2, e3, e4, e5, e6, e7⟩, f0, f1, f3, f4, f5, f6, f7, f8⟩ := eight HF7.out.x
                      go_wp2
                      obtain ⟨⟨q0, q1⟩, q2, q3, q4, q5, q6, q7, q8, q9⟩ := fin_cells (b := W.heap.size + 1) (c := W.heap.size + 1 + 1) (by omega) HF7.out.r HF7.out.x (.slice (some ⟨g, 0, none⟩) ts.length cap) (.int .i64 (k9 : Int)) (.int .i64 4) (.int .i64 0) (.int .i64 0) (S []) (S []) (S []) (.int .i64 0) (.slice (some ⟨g5, 0, none⟩) (acc.length + 1) cap5)
                      have hX : ReadsXP _ _ (.mk 4 (0, 0, []) [] [] 0 (acc2.map fun q : Ex × Value => q.1)) (EV 4 (0, 0, []) [] [] 0 (.slice (some ⟨g5, 0, none⟩) (acc.length + 1) cap5)) := ⟨_, rfl, HT9.out⟩
                      exact bodyPost_ret (v := .tuple #[RS g ts.length cap k9, EV 4 (0, 0, []) [] [] 0 (.slice (some ⟨g5, 0, none⟩) (acc.length + 1) cap5), .int .i64 0]) (by simp [results, Tryz.results95, go_sem, q0, q1, q2, q3, q4, q5, q6, q7, q8, q9]) rfl ⟨k9, _, _, 0, hk9.2, fin_readsP hX (fun i hi => ⟨by have := hi.1; omega, by have := hi.1; omega, by have := hi.1; omega⟩) _ _ _ _ _ _ _ _ _ _, rfl, fin_bl HF7.out.bl (by omega) (by omega) _ _ _ _ _ _ _ _ _ _, HSay.out⟩
                    · have hop : callE nm (acc2.map fun q : Ex × Value => q.1) = .mk 5 (0, 0, []) [] nm 0 (acc2.map fun q : Ex × Value => q.1) := by
                        have h36 : idx = 3 ∨ idx = 4 ∨ idx = 5 ∨ idx = 6 := by omega
                        rcases h36 with rfl | rfl | rfl | rfl
                        all_goals
                          rw [← hyes]; rfl
                      have HSay := Lib.hid (show Says R k9 (.mk 5 (0, 0, []) [] nm 0 (acc2.map fun q : Ex × Value => q.1)) 0 from by rw [← hop]; exact hSay.out)
                      have hi3 : ¬ (idx : Int) = 2 := by omega
                      have hi4 : ((idx : Int) == 2) = false := by simpa using hi3
                      clear hop hyes hSay
                      -- an answer with the arguments that were read
                      obtain ⟨s0, s1, -, -, -⟩ := cells2 HF7.out.s
                      obtain ⟨r0, r1, z0, z1, hlr⟩ := cells2 HF7.out.r
                      obtain ⟨⟨e0, e1, e2, e3, e4, e5, e6, e7⟩, f0, f1, f3, f4, f5, f6, f7, f8⟩ := eight HF7.out.x
                      go_wp2
                      obtain ⟨⟨q0, q1⟩, q2, q3, q4, q5, q6, q7, q8, q9⟩ := fin_cells (b := W.heap.size + 1) (c := W.heap.size + 1 + 1) (by omega) HF7.out.r HF7.out.x (.slice (some ⟨g, 0, none⟩) ts.length cap) (.int .i64 (k9 : Int)) (.int .i64 5) (.int .i64 0) (.int .i64 0) (S []) (S []) (S nm) (.int .i64 0) (.slice (some ⟨g5, 0, none⟩) (acc.length + 1) cap5)
                      have hX : ReadsXP _ _ (.mk 5 (0, 0, []) [] nm 0 (acc2.map fun q : Ex × Value => q.1)) (EV 5 (0, 0, []) [] nm 0 (.slice (some ⟨g5, 0, none⟩) (acc.length + 1) cap5)) := ⟨_, rfl, HT9.out⟩
                      exact bodyPost_ret (v := .tuple #[RS g ts.length cap k9, EV 5 (0, 0, []) [] nm 0 (.slice (some ⟨g5, 0, none⟩) (acc.length + 1) cap5), .int .i64 0]) (by simp [results, Tryz.results95, go_sem, q0, q1, q2, q3, q4, q5, q6, q7, q8, q9]) rfl ⟨k9, _, _, 0, hk9.2, fin_readsP hX (fun i hi => ⟨by have := hi.1; omega, by have := hi.1; omega, by have := hi.1; omega⟩) _ _ _ _ _ _ _ _ _ _, rfl, fin_bl HF7.out.bl (by omega) (by omega) _ _ _ _ _ _ _ _ _ _, HSay.out⟩
            · have hcb : (c == 0) = false := by simpa using hc0
              have hcb' : (c != 0) = true := by simpa using hc0
              have hSay := Lib.hid (show Says R k' (.mk xk (x1, x2, x3) xt xn xo xa) c from by
                obtain ⟨h1, h2⟩ := HS.out.no hc0
                exact .inr ⟨h1, by rw [HRF.out, h2]; rfl⟩)
              clear HS
              go_wp2_with fail
              -- the last region: what stands in the blocks bt, bt + 1 is answered. HAXq: these blocks; HFq: the frame; HAq: the tree
              refine wp_region_noPanic (wp_region_sd (fun B => B.heap[w4.heap.size]? = some (.cells #[.slice (some ⟨g, 0, none⟩) ts.length cap, .int .i64 (k' : Int)] 46 (0, 0)) ∧ B.heap[w4.heap.size + 1]? = some (.cells #[.int .i64 xk, .int .i64 x1, .int .i64 x2, S x3, S xt, S xn, .int .i64 xo, .slice asv xa.length csv] 30 (0, 0))) ((.take 0 (.take 1 (.take 2 (.one 3 (.one 4 (.take 5 .done))))))) (by kernel_rfl) (by kernel_rfl) (by kernel_rfl) (fun _ _ _ _ _ h => h) (keep_two HAXq.out ((Bl.refl _).drew)) ?_) -- wp_region_sc 
              intro wd HWD hHeld
              refine sc_take' rfl (by rfl) (by intro w hSw; (try dsimp only at hSw); obtain ⟨a0, a1, -, -, -⟩ := cells2 hSw.1; obtain ⟨⟨e0, e1, e2, e3, e4, e5, e6, e7⟩, -⟩ := eight hSw.2; go_simp; (try (first | with_reducible rfl | rfl))) ?_; (try simp only [Act.put, List.setIfInBounds_toArray, List.set_cons_zero, List.set_cons_succ])
              refine sc_take' rfl (by rfl) (by intro w hSw; (try dsimp only at hSw); obtain ⟨a0, a1, -, -, -⟩ := cells2 hSw.1; obtain ⟨⟨e0, e1, e2, e3, e4, e5, e6, e7⟩, -⟩ := eight hSw.2; go_simp; (try (first | with_reducible rfl | rfl))) ?_; (try simp only [Act.put, List.setIfInBounds_toArray, List.set_cons_zero, List.set_cons_succ])
              refine sc_take' rfl (by rfl) (by intro w hSw; (try dsimp only at hSw); obtain ⟨a0, a1, -, -, -⟩ := cells2 hSw.1; obtain ⟨⟨e0, e1, e2, e3, e4, e5, e6, e7⟩, -⟩ := eight hSw.2; go_simp; (try (first | with_reducible rfl | rfl))) ?_; (try simp only [Act.put, List.setIfInBounds_toArray, List.set_cons_zero, List.set_cons_succ])
              obtain ⟨r0, r1, z0, z1, hlr⟩ := cells2 (HFq.out.next HWD.out).r
              refine sc_call' rfl (fun K hK => ?_); go_simp; refine hK.out _ _ ((keep_set2 (b := W.heap.size + 1) hHeld (by omega) (by omega))) (fun hHeld2 => ?_); clear hHeld hK K; have hHeld := hHeld2; clear hHeld2
              clear r0 r1 z0 z1
              obtain ⟨⟨e0, e1, e2, e3, e4, e5, e6, e7⟩, f0, f1, f2, f3, f4, f5, f6, f7⟩ := eight ((set2_other _ (b := W.heap.size + 1) (i := W.heap.size + 1 + 1) (by omega) (.slice (some ⟨g, 0, none⟩) ts.length cap) (.int .i64 (k' : Int))).trans (HFq.out.next HWD.out).x)
              refine sc_call' rfl (fun K hK => ?_); go_simp; refine hK.out _ _ ((keep_set8 (b := W.heap.size + 1 + 1) hHeld (by omega) (by omega))) (fun hHeld2 => ?_); clear hHeld hK K; have hHeld := hHeld2; clear hHeld2
              refine sc_take' rfl (by rfl) (by intro w hSw; (try dsimp only at hSw); obtain ⟨a0, a1, -, -, -⟩ := cells2 hSw.1; obtain ⟨⟨e0, e1, e2, e3, e4, e5, e6, e7⟩, -⟩ := eight hSw.2; go_simp; (try (first | with_reducible rfl | rfl))) ?_; (try simp only [Act.put, List.setIfInBounds_toArray, List.set_cons_zero, List.set_cons_succ])
              refine sc_nil (NoPanic.normal ?_)
              go_wp2
              obtain ⟨⟨q0, q1⟩, q2, q3, q4, q5, q6, q7, q8, q9⟩ := fin_cells (b := W.heap.size + 1) (c := W.heap.size + 1 + 1) (by omega) (HFq.out.next HWD.out).r (HFq.out.next HWD.out).x (.slice (some ⟨g, 0, none⟩) ts.length cap) (.int .i64 (k' : Int)) (.int .i64 xk) (.int .i64 x1) (.int .i64 x2) (S x3) (S xt) (S xn) (.int .i64 xo) (.slice asv xa.length csv)
              have hX : ReadsXP _ _ (.mk xk (x1, x2, x3) xt xn xo xa) (EV xk (x1, x2, x3) xt xn xo (.slice asv xa.length csv)) := ⟨_, rfl, HAq.out.bl HWD.out⟩
              exact bodyPost_ret (v := .tuple #[RS g ts.length cap k', EV xk (x1, x2, x3) xt xn xo (.slice asv xa.length csv), .int .i64 c]) (by simp [results, Tryz.results95, go_sem, q0, q1, q2, q3, q4, q5, q6, q7, q8, q9]) rfl ⟨k', _, _, c, HKK.out, fin_readsP hX (fun i hi => ⟨by have := hi.1; omega, by have := hi.1; omega, by have := hi.1; omega⟩) _ _ _ _ _ _ _ _ _ _, rfl, fin_bl (HFq.out.next HWD.out).bl (by omega) (by omega) _ _ _ _ _ _ _ _ _ _, hSay.out⟩
--END1

end Go.Proofs.YtepkfkfedmbmnaaGreatDoor

namespace Go.Proofs.YtepkfkfedmbmnaaGreatDoor
open Go.RowKit
set_option maxRecDepth 100000

theorem allR_step {f : Nat} (IH : ∀ f', f' ≤ f → AllR f') : AllR (f + 1) := by
  intro W g cap ts n k d n' d' hn' hd' h hT hfew hk hn hd hne
  subst hn' hd'
  by_cases h60 : d ≤ 60
  · rw [rdR_same _ _ _ _ _ h60] at hne ⊢
    have hI := IH f (Nat.le_refl _)
    by_cases h2 : n = 2
    · subst h2
      exact xread_2 hI h hT hfew hk h60 hne
    by_cases h7 : n = 7
    · subst h7
      exact xread_7 hI (xalone_any hI (xcalled_any IH)) h hT hfew hk h60 hne
    by_cases h3 : n = 3
    · subst h3
      exact xread_3 IH h hT hfew hk h60 hne
    · exact xread_n IH h hT hfew hk h60 (by omega) h2 h3 hne
  · obtain rfl : d = 61 := by omega
    rw [show rdR ts (f + 1) n k 61 = .bad 260 from rfl]
    exact xread_deep _ hk W
theorem allR : ∀ (m f : Nat), f ≤ m → AllR f
  | _, 0, _ => by
    intro W g cap ts n k d n' d' hn' hd' h hT hfew hk hn hd hne
    subst hn' hd'
    by_cases h60 : d ≤ 60
    · exact absurd (rdR_same ts 0 n k d h60) (fun e => hne (by rw [e]; rfl))
    · obtain rfl : d = 61 := by omega
      rw [show rdR ts 0 n k 61 = .bad 260 from rfl]
      exact xread_deep _ hk W
  | 0, f + 1, h => by omega
  | m + 1, f + 1, h => allR_step fun f' hf' => allR m f' (by omega)

/-- What louperef16.Read answers. -/
def RRPost (g cap : Nat) (ts : List Tok) (k : Nat) (W : World) (e : Ending) (w' : World) : Prop := match readR ts k with
  | .out => False
  | .bad c => (c = 260 ∨ c = 261) ∧ e = .returned (.tuple #[RS g ts.length cap k, EV 0 (0, 0, []) [] [] 0 (.slice none 0 0), .int .i64 c]) ∧ Bl W w'
  | .good k' x => ∃ v, k' < ts.length ∧ ReadsX W.heap.size w' x v ∧ e = .returned (.tuple #[RS g ts.length cap k', v, .int .i64 0]) ∧ Bl W w'
--BEGIN1
set_option maxHeartbeats 4000000 in
theorem xRead_any {W : World} {g cap : Nat} {ts : List Tok} {k : Nat} (h : Row W g ts) (hT : TokOK ts) (hfew : ts.length ≤ 100000) (hk : k < ts.length) : Calls Tryz.prog 15 #[RS g ts.length cap k] W (RRPost g cap ts k W) := by
  have he := readR_ends hT hk
  have hne : rdR ts (steps ts) 0 k 0 ≠ .out := by
    rw [rdR_same _ _ _ _ _ (by omega)]
    intro e
    unfold readR at he
    rw [e] at he
    exact he
  have hall := allR _ (steps ts) (Nat.le_refl _)
  obtain ⟨R, HR0⟩ : ∃ R, Hid (R = readR ts k) := ⟨_, rfl⟩
  have HP : Hid (∀ e w', (match R with
    | .out => False
    | .bad c => (c = 260 ∨ c = 261) ∧ e = .returned (.tuple #[RS g ts.length cap k, EV 0 (0, 0, []) [] [] 0 (.slice none 0 0), .int .i64 c]) ∧ Bl W w'
    | .good k' x => ∃ v, k' < ts.length ∧ ReadsX W.heap.size w' x v ∧ e = .returned (.tuple #[RS g ts.length cap k', v, .int .i64 0]) ∧ Bl W w') → RRPost g cap ts k W e w') := fun e w' hh => by
    unfold RRPost
    rw [← HR0.out]
    exact hh
  have H := Lib.hid h
  have HK := Lib.hid hk
  have HT := Lib.hid hT
  have HA0 := Lib.hid hall
  have HN := Lib.hid hne
  have HF0 := Lib.hid (FrR.start W g ts.length cap k)
  clear h hk hT hall hne he
  go_enter Tryz.func15, Tryz.ntmps15
  go_wp2_with fail
  refine (HA0.out _ g cap ts 0 k 0 0 0 rfl rfl (H.out.bl HF0.out.bl) HT.out hfew HK.out (by omega) (by omega) HN.out).mono ?_
  rintro e w4 ⟨k', x, v, c, hk', ⟨sv, rfl, hA⟩, rfl, hb4, hs⟩
  have HF4 := Lib.hid (HF0.out.next hb4)
  obtain ⟨xk, ⟨x1, x2, x3⟩, xt, xn, xo, xa⟩ := x
  obtain ⟨asv, csv, rfl⟩ := hA.shape
  simp only [Ex.k, Ex.v, Ex.t, Ex.n, Ex.o, Ex.args] at hA ⊢
  rw [rdR_same _ _ _ _ _ (by omega)] at hs
  replace hs : Says R k' (.mk xk (x1, x2, x3) xt xn xo xa) c := by rw [HR0.out]; exact hs
  have HS := Lib.hid hs
  have hz4 := HF4.out.size
  have hbq : Bl w4 ((w4.alloc (.cells #[.slice (some ⟨g, 0, none⟩) ts.length cap, .int .i64 (k' : Int)] 46)).alloc (.cells #[.int .i64 xk, .int .i64 x1, .int .i64 x2, S x3, S xt, S xn, .int .i64 xo, .slice asv xa.length csv] 30)) := ((Bl.refl w4).alloc _).alloc _
  have HFq := Lib.hid (HF4.out.next hbq)
  have HAq := Lib.hid (show ReadsP (fun b => W.heap.size + 3 ≤ b ∧ True) ((w4.alloc (.cells #[.slice (some ⟨g, 0, none⟩) ts.length cap, .int .i64 (k' : Int)] 46)).alloc (.cells #[.int .i64 xk, .int .i64 x1, .int .i64 x2, S x3, S xt, S xn, .int .i64 xo, .slice asv xa.length csv] 30)) (.slice asv xa.length csv) xa from (hA.of fun b hl (hb : _ ≤ b) => ⟨by simp at hb; omega, trivial⟩).bl hbq)
  have HAXq := Lib.hid (show ((w4.alloc (.cells #[.slice (some ⟨g, 0, none⟩) ts.length cap, .int .i64 (k' : Int)] 46)).alloc (.cells #[.int .i64 xk, .int .i64 x1, .int .i64 x2, S x3, S xt, S xn, .int .i64 xo, .slice asv xa.length csv] 30)).heap[w4.heap.size]? = some (.cells #[.slice (some ⟨g, 0, none⟩) ts.length cap, .int .i64 (k' : Int)] 46 (0, 0)) ∧ ((w4.alloc (.cells #[.slice (some ⟨g, 0, none⟩) ts.length cap, .int .i64 (k' : Int)] 46)).alloc (.cells #[.int .i64 xk, .int .i64 x1, .int .i64 x2, S x3, S xt, S xn, .int .i64 xo, .slice asv xa.length csv] 30)).heap[w4.heap.size + 1]? = some (.cells #[.int .i64 xk, .int .i64 x1, .int .i64 x2, S x3, S xt, S xn, .int .i64 xo, .slice asv xa.length csv] 30 (0, 0)) from ⟨(heap_old _ _ (by simp)).trans (heap_new w4 _), heap_new' _ _ (by simp)⟩)
  have HKK := Lib.hid hk'
  clear hA hs hk' hb4 hbq
  by_cases hc0 : c = 0
  · subst hc0
    have hRg := Lib.hid HS.out.yes
    clear HS
    go_wp2_with fail
    refine wp_region_noPanic (wp_region_sd (fun B => B.heap[w4.heap.size]? = some (.cells #[.slice (some ⟨g, 0, none⟩) ts.length cap, .int .i64 (k' : Int)] 46 (0, 0)) ∧ B.heap[w4.heap.size + 1]? = some (.cells #[.int .i64 xk, .int .i64 x1, .int .i64 x2, S x3, S xt, S xn, .int .i64 xo, .slice asv xa.length csv] 30 (0, 0))) ((.take 0 (.take 1 (.one 2 (.one 3 (.take 4 .done)))))) (by kernel_rfl) (by kernel_rfl) (by kernel_rfl) (fun _ _ _ _ _ h => h) (keep_two HAXq.out ((Bl.refl _).drew)) ?_) -- wp_region_sc 
    intro wd HWD hHeld
    refine sc_take' rfl (by rfl) (by intro w hSw; (try dsimp only at hSw); obtain ⟨a0, a1, -, -, -⟩ := cells2 hSw.1; obtain ⟨⟨e0, e1, e2, e3, e4, e5, e6, e7⟩, -⟩ := eight hSw.2; go_simp; (try (first | with_reducible rfl | rfl))) ?_; (try simp only [Act.put, List.setIfInBounds_toArray, List.set_cons_zero, List.set_cons_succ])
    refine sc_take' rfl (by rfl) (by intro w hSw; (try dsimp only at hSw); obtain ⟨a0, a1, -, -, -⟩ := cells2 hSw.1; obtain ⟨⟨e0, e1, e2, e3, e4, e5, e6, e7⟩, -⟩ := eight hSw.2; go_simp; (try (first | with_reducible rfl | rfl))) ?_; (try simp only [Act.put, List.setIfInBounds_toArray, List.set_cons_zero, List.set_cons_succ])
    obtain ⟨r0, r1, z0, z1, hlr⟩ := cells2 (HFq.out.next HWD.out).r
    refine sc_call' rfl (fun K hK => ?_); go_simp; refine hK.out _ _ ((keep_set2 (b := W.heap.size + 1) hHeld (by omega) (by omega))) (fun hHeld2 => ?_); clear hHeld hK K; have hHeld := hHeld2; clear hHeld2
    clear r0 r1 z0 z1
    obtain ⟨⟨e0, e1, e2, e3, e4, e5, e6, e7⟩, f0, f1, f2, f3, f4, f5, f6, f7⟩ := eight ((set2_other wd (b := W.heap.size + 1) (i := W.heap.size + 1 + 1) (by omega) (.slice (some ⟨g, 0, none⟩) ts.length cap) (.int .i64 (k' : Int))).trans (HFq.out.next HWD.out).x)
    refine sc_call' rfl (fun K hK => ?_); go_simp; refine hK.out _ _ ((keep_set8 (b := W.heap.size + 1 + 1) hHeld (by omega) (by omega))) (fun hHeld2 => ?_); clear hHeld hK K; have hHeld := hHeld2; clear hHeld2
    refine sc_take' rfl (by rfl) (by intro w hSw; (try dsimp only at hSw); obtain ⟨a0, a1, -, -, -⟩ := cells2 hSw.1; obtain ⟨⟨e0, e1, e2, e3, e4, e5, e6, e7⟩, -⟩ := eight hSw.2; go_simp; (try (first | with_reducible rfl | rfl))) ?_; (try simp only [Act.put, List.setIfInBounds_toArray, List.set_cons_zero, List.set_cons_succ])
    refine sc_nil (NoPanic.normal ?_)
    go_wp2
    obtain ⟨⟨q0, q1⟩, q2, q3, q4, q5, q6, q7, q8, q9⟩ := fin_cells (b := W.heap.size + 1) (c := W.heap.size + 1 + 1) (by omega) (HFq.out.next HWD.out).r (HFq.out.next HWD.out).x (.slice (some ⟨g, 0, none⟩) ts.length cap) (.int .i64 (k' : Int)) (.int .i64 xk) (.int .i64 x1) (.int .i64 x2) (S x3) (S xt) (S xn) (.int .i64 xo) (.slice asv xa.length csv)
    have hX : ReadsXP _ _ (.mk xk (x1, x2, x3) xt xn xo xa) (EV xk (x1, x2, x3) xt xn xo (.slice asv xa.length csv)) := ⟨_, rfl, HAq.out.bl HWD.out⟩
    refine bodyPost_ret (v := .tuple #[RS g ts.length cap k', EV xk (x1, x2, x3) xt xn xo (.slice asv xa.length csv), .int .i64 0]) (by simp [results, Tryz.results15, go_sem, q0, q1, q2, q3, q4, q5, q6, q7, q8, q9]) rfl (HP.out _ _ ?_)
    rw [hRg.out]
    exact ⟨_, HKK.out, fin_readsP hX (fun i hi => ⟨by have := hi.1; omega, by have := hi.1; omega, by have := hi.1; omega⟩) _ _ _ _ _ _ _ _ _ _, rfl, fin_bl (HFq.out.next HWD.out).bl (by omega) (by omega) _ _ _ _ _ _ _ _ _ _⟩
  · have hcb : (c == 0) = false := by simpa using hc0
    have hcb' : (c != 0) = true := by simpa using hc0
    have hRb := Lib.hid (HS.out.no hc0)
    clear HS
    obtain ⟨s0, s1, -, -, -⟩ := cells2 HFq.out.s
    obtain ⟨r0, r1, z0, z1, hlr⟩ := cells2 HFq.out.r
    obtain ⟨⟨e0, e1, e2, e3, e4, e5, e6, e7⟩, f0, f1, f2, f3, f4, f5, f6, f7⟩ := eight HFq.out.x
    go_wp2
    obtain ⟨⟨q0, q1⟩, q2, q3, q4, q5, q6, q7, q8, q9⟩ := fin_cells (b := W.heap.size + 1) (c := W.heap.size + 1 + 1) (by omega) HFq.out.r HFq.out.x (.slice (some ⟨g, 0, none⟩) ts.length cap) (.int .i64 (k : Int)) (.int .i64 0) (.int .i64 0) (.int .i64 0) (S []) (S []) (S []) (.int .i64 0) (.slice none 0 0)
    refine bodyPost_ret (v := .tuple #[RS g ts.length cap k, EV 0 (0, 0, []) [] [] 0 (.slice none 0 0), .int .i64 c]) (by simp [results, Tryz.results15, go_sem, q0, q1, q2, q3, q4, q5, q6, q7, q8, q9]) rfl (HP.out _ _ ?_)
    rw [hRb.out.2]
    exact ⟨hRb.out.1, rfl, fin_bl HFq.out.bl (by omega) (by omega) _ _ _ _ _ _ _ _ _ _⟩
--END1

end Go.Proofs.YtepkfkfedmbmnaaGreatDoor

namespace Go.Proofs.YtepkfkfedmbmnaaGreatDoor
open Go.RowKit
set_option maxRecDepth 100000

theorem xAll_good (l : List UInt8) (hl : l.length ≤ 4000) (ts : List Tok) (h : toksO l = some ts) (W : World) : Calls Tryz.prog 13 #[S l] W fun e w' =>
    ∃ g cap, e = .returned (.tuple #[.slice (some ⟨g, 0, none⟩) (ts ++ [endTok l.length]).length cap, .int .i64 0]) ∧ Bl W w' ∧ Row w' g (ts ++ [endTok l.length]) := by
  have h0 : allErr l = 0 := by unfold allErr; rw [if_neg (by omega), h, if_neg (by simp)]
  refine (rAll_any l hl W).mono ?_
  rintro e w' ⟨v, he, hb, ho⟩
  have ho' := ho ts h0 h
  obtain ⟨g, cap, rfl⟩ := own_slice ho'
  exact ⟨g, cap, by rw [he, h0]; simp, hb, got_at ho'⟩
theorem parseX_bad {s : List UInt8} (h : allErr s ≠ 0) : parseX s = (allErr s, zeroE) := by
  unfold parseX
  unfold allErr at h ⊢
  by_cases h1 : 4000 < s.length
  · rw [if_pos h1, if_pos h1]
  · rw [if_neg h1] at h ⊢
    rw [if_neg h1]
    cases ht : toksO s with
    | none => simp
    | some ts => rw [ht] at h; simp at h

def XParsePost (s : List UInt8) (W : World) (e : Ending) (w' : World) : Prop := ∃ v, ReadsE w' (parseX s).2 v ∧ e = .returned (.tuple #[v, .int .i64 (parseX s).1]) ∧ Bl W w'
--BEGIN1
set_option maxHeartbeats 4000000 in
theorem xParse_bad (s : List UInt8) (hs : s.length ≤ 9223372036854775807) (h : allErr s ≠ 0) (W : World) : Calls Tryz.prog 9 #[S s] W (XParsePost s W) := by
  have HP := Lib.hid (parseX_bad h)
  have H := Lib.hid h
  have hb0 : (allErr s == 0) = false := by simpa using h
  have hb1 : (allErr s != 0) = true := by simpa using h
  clear h
  go_enter Tryz.func9, Tryz.ntmps9
  go_wp2_with fail
  refine (rAll_all s hs _).mono ?_
  rintro e w1 ⟨v, rfl, hb, -⟩
  have hX : w1.heap[W.heap.size]? = some (.cells #[.int .i64 0, .int .i64 0, .int .i64 0, S [], S [], S [], .int .i64 0, .slice none 0 0] 30 (0, 0)) := (hb.block _ (by simp)).trans (heap_new W _)
  have HB := Lib.hid (((Bl.refl W).alloc _).call hb)
  have HX := Lib.hid hX
  obtain ⟨⟨e0, e1, e2, e3, e4, e5, e6, e7⟩, f0, f1, f2, f3, f4, f5, f6, f7⟩ := eight hX
  clear hb hX
  go_wp2
  obtain ⟨⟨q0, q1, q2, q3, q4, q5, q6, q7⟩, -⟩ := eight (set8_heap HX.out (.int .i64 0) (.int .i64 0) (.int .i64 0) (S []) (S []) (S []) (.int .i64 0) (.slice none 0 0))
  exact bodyPost_ret (v := .tuple #[EV 0 (0, 0, []) [] [] 0 (.slice none 0 0), .int .i64 (allErr s)]) (by simp [results, Tryz.results9, go_sem, q0, q1, q2, q3, q4, q5, q6, q7]) rfl ⟨_, by rw [HP.out]; exact readsE_zero _, by rw [HP.out], bl_set8 HB.out (Nat.le_refl _) _ _ _ _ _ _ _ _⟩
--END1
--BEGIN2
set_option maxHeartbeats 4000000 in
theorem xParse_good (s : List UInt8) (hs : s.length ≤ 4000) (ts : List Tok) (h : toksO s = some ts) (W : World) : Calls Tryz.prog 9 #[S s] W (XParsePost s W) := by
  have hT := tok_ok h
  have hfew := few_toks h
  have hAll := fun W' => xAll_good s hs ts h W'
  obtain ⟨tl, htl⟩ : ∃ tl, tl = ts ++ [endTok s.length] := ⟨_, rfl⟩
  have hP : parseX s = match readR tl 0 with
      | .out => (0, zeroE)
      | .bad c => (c, zeroE)
      | .good k x => if (tl[k]?).map (·.k) = some 4 then (0, x) else (261, zeroE) := by
    unfold parseX
    rw [if_neg (by omega), h, htl]
    rfl
  have hpos : 0 < tl.length := by rw [htl]; simp
  have hfew2 : tl.length ≤ 100000 := by rw [htl]; simp; omega
  rw [← htl] at hT
  simp only [← htl] at hAll
  have HPX := Lib.hid hP
  have HT := Lib.hid hT
  have HALL := Lib.hid hAll
  clear htl h hP hT hAll hfew
  go_enter Tryz.func9, Tryz.ntmps9
  go_wp2_with fail
  refine (HALL.out _).mono ?_
  rintro e w1 ⟨g, cap, rfl, hb1, hrow⟩
  have hX : w1.heap[W.heap.size]? = some (.cells #[.int .i64 0, .int .i64 0, .int .i64 0, S [], S [], S [], .int .i64 0, .slice none 0 0] 30 (0, 0)) := (hb1.block _ (by simp)).trans (heap_new W _)
  have HX1 := Lib.hid hX
  have HB1 := Lib.hid (((Bl.refl W).alloc _).call hb1)
  have HROW := Lib.hid hrow
  clear hb1 hX hrow
  go_wp2_with fail
  refine (xRead_any (k := 0) HROW.out HT.out hfew2 hpos).mono ?_
  intro e w2 hr
  unfold RRPost at hr
  cases hres : readR tl 0 with
  | out => rw [hres] at hr; exact hr.elim
  | bad c =>
    rw [hres] at hr
    obtain ⟨hc, rfl, hb2⟩ := hr
    have hP2 := HPX.out
    rw [hres] at hP2
    have HP2 := Lib.hid hP2
    have hc0 : ¬ c = 0 := by omega
    have hcb : (c == 0) = false := by simpa using hc0
    have hcb' : (c != 0) = true := by simpa using hc0
    have hbq := (hb2.alloc (.cells #[.slice (some ⟨g, 0, none⟩) tl.length cap, .int .i64 0] 46)).alloc (.cells #[.int .i64 0, .int .i64 0, .int .i64 0, S [], S [], S [], .int .i64 0, .slice none 0 0] 30)
    have HX2 := Lib.hid ((hbq.block _ (Array.getElem?_eq_some_iff.1 HX1.out).1).trans HX1.out)
    have HB := Lib.hid (HB1.out.call hbq)
    clear hb2 hbq hP2 hres
    obtain ⟨⟨e0, e1, e2, e3, e4, e5, e6, e7⟩, f0, f1, f2, f3, f4, f5, f6, f7⟩ := eight HX2.out
    go_wp2
    obtain ⟨⟨q0, q1, q2, q3, q4, q5, q6, q7⟩, -⟩ := eight (set8_heap HX2.out (.int .i64 0) (.int .i64 0) (.int .i64 0) (S []) (S []) (S []) (.int .i64 0) (.slice none 0 0))
    exact bodyPost_ret (v := .tuple #[EV 0 (0, 0, []) [] [] 0 (.slice none 0 0), .int .i64 c]) (by simp [results, Tryz.results9, go_sem, q0, q1, q2, q3, q4, q5, q6, q7]) rfl ⟨_, by rw [HP2.out]; exact readsE_zero _, by rw [HP2.out], bl_set8 HB.out (Nat.le_refl _) _ _ _ _ _ _ _ _⟩
  | good k' x =>
    rw [hres] at hr
    obtain ⟨v, hk', ⟨sv, rfl, hA⟩, rfl, hb2⟩ := hr
    obtain ⟨y, hy⟩ : ∃ y, tl[k']? = some y := ⟨_, List.getElem?_eq_getElem hk'⟩
    have hP2 := HPX.out
    rw [hres] at hP2
    simp only at hP2
    rw [hy] at hP2
    simp only [Option.map_some, Option.some.injEq] at hP2
    obtain ⟨xk, ⟨x1, x2, x3⟩, xt, xn, xo, xa⟩ := x
    obtain ⟨asv, csv, rfl⟩ := hA.shape
    simp only [Ex.k, Ex.v, Ex.t, Ex.n, Ex.o, Ex.args] at hA ⊢
    have hbq := (hb2.alloc (.cells #[.slice (some ⟨g, 0, none⟩) tl.length cap, .int .i64 (k' : Int)] 46)).alloc (.cells #[.int .i64 xk, .int .i64 x1, .int .i64 x2, S x3, S xt, S xn, .int .i64 xo, .slice asv xa.length csv] 30)
    have HY := Lib.hid hy
    have HB2 := Lib.hid hbq
    have HX2 := Lib.hid ((hbq.block _ (Array.getElem?_eq_some_iff.1 HX1.out).1).trans HX1.out)
    have HRO2 := Lib.hid (HROW.out.bl hbq)
    have HAX := Lib.hid (hA.bl (((Bl.refl w2).alloc (.cells #[.slice (some ⟨g, 0, none⟩) tl.length cap, .int .i64 (k' : Int)] 46)).alloc (.cells #[.int .i64 xk, .int .i64 x1, .int .i64 x2, S x3, S xt, S xn, .int .i64 xo, .slice asv xa.length csv] 30)))
    have HEX := Lib.hid (heap_new' (w2.alloc (.cells #[.slice (some ⟨g, 0, none⟩) tl.length cap, .int .i64 (k' : Int)] 46)) (.cells #[.int .i64 xk, .int .i64 x1, .int .i64 x2, S x3, S xt, S xn, .int .i64 xo, .slice asv xa.length csv] 30) (k := w2.heap.size + 1) (by simp))
    have hW1 := (Array.getElem?_eq_some_iff.1 HX1.out).1
    clear hb2 hbq hres hy hA
    obtain ⟨yk, yp, yt, ya, yb, yc⟩ := y
    go_wp2_with fail
    (with_reducible refine (rPeek_any HRO2.out hfew2 HY.out).mono ?_)
    rintro e w3 ⟨rfl, hb3⟩
    rw [show TVt ⟨yk, yp, yt, (ya, yb, yc)⟩ = .agg #[.int .i64 yk, .int .i64 (yp : Int), S yt, .int .i64 ya, .int .i64 yb, S yc] from rfl]
    have HX3 := Lib.hid ((hb3.block _ (Array.getElem?_eq_some_iff.1 HX2.out).1).trans HX2.out)
    have HB := Lib.hid (HB1.out.call (HB2.out.call hb3))
    have HEX3 := Lib.hid ((hb3.block _ (Array.getElem?_eq_some_iff.1 HEX.out).1).trans HEX.out)
    have HA3 := Lib.hid (HAX.out.bl hb3)
    clear hb3
    have hfld : ∀ w, Sem.run Tryz.prog (Instr.field 53 (.agg #[.int .i64 yk, .int .i64 (yp : Int), S yt, .int .i64 ya, .int .i64 yb, S yc]) 0) w = .ok (.int .i64 yk) w := fun _ => rfl
    by_cases hy4 : yk = 4
    · subst hy4
      rw [if_pos rfl] at hP2
      have HP2 := Lib.hid hP2
      clear hP2
      obtain ⟨⟨i0, i1, i2, i3, i4, i5, i6, i7⟩, -⟩ := eight HEX3.out
      obtain ⟨⟨e0, e1, e2, e3, e4, e5, e6, e7⟩, f0, f1, f2, f3, f4, f5, f6, f7⟩ := eight HX3.out
      go_wp2
      obtain ⟨⟨q0, q1, q2, q3, q4, q5, q6, q7⟩, -⟩ := eight (set8_heap HX3.out (.int .i64 xk) (.int .i64 x1) (.int .i64 x2) (S x3) (S xt) (S xn) (.int .i64 xo) (.slice asv xa.length csv))
      have hX9 : ReadsE (set8 w3 W.heap.size (.int .i64 xk) (.int .i64 x1) (.int .i64 x2) (S x3) (S xt) (S xn) (.int .i64 xo) (.slice asv xa.length csv)) (.mk xk (x1, x2, x3) xt xn xo xa) (EV xk (x1, x2, x3) xt xn xo (.slice asv xa.length csv)) := ⟨_, rfl, (HA3.out.set8' (fun i hi => by have : w1.heap.size ≤ i := hi; omega) _ _ _ _ _ _ _ _).reads⟩
      exact bodyPost_ret (v := .tuple #[EV xk (x1, x2, x3) xt xn xo (.slice asv xa.length csv), .int .i64 0]) (by simp [results, Tryz.results9, go_sem, q0, q1, q2, q3, q4, q5, q6, q7]) rfl ⟨_, by rw [HP2.out]; exact hX9, by rw [HP2.out], bl_set8 HB.out (Nat.le_refl _) _ _ _ _ _ _ _ _⟩
    · rw [if_neg hy4] at hP2
      have HP2 := Lib.hid hP2
      have hyb : (yk == 4) = false := by simpa using hy4
      have hyb' : (yk != 4) = true := by simpa using hy4
      clear hP2
      obtain ⟨⟨e0, e1, e2, e3, e4, e5, e6, e7⟩, f0, f1, f2, f3, f4, f5, f6, f7⟩ := eight HX3.out
      go_wp2
      obtain ⟨⟨q0, q1, q2, q3, q4, q5, q6, q7⟩, -⟩ := eight (set8_heap HX3.out (.int .i64 0) (.int .i64 0) (.int .i64 0) (S []) (S []) (S []) (.int .i64 0) (.slice none 0 0))
      exact bodyPost_ret (v := .tuple #[EV 0 (0, 0, []) [] [] 0 (.slice none 0 0), .int .i64 261]) (by simp [results, Tryz.results9, go_sem, q0, q1, q2, q3, q4, q5, q6, q7]) rfl ⟨_, by rw [HP2.out]; exact readsE_zero _, by rw [HP2.out], bl_set8 HB.out (Nat.le_refl _) _ _ _ _ _ _ _ _⟩
--END2
/-- THE REFERENCE's Parse answers parseX. -/
theorem xParse_any (s : List UInt8) (hs : s.length ≤ 9223372036854775807) (W : World) : Calls Tryz.prog 9 #[S s] W (XParsePost s W) := by
  by_cases h : allErr s = 0
  · unfold allErr at h
    by_cases h1 : 4000 < s.length
    · rw [if_pos h1] at h; cases h
    · rw [if_neg h1] at h
      cases ht : toksO s with
      | none => rw [ht] at h; simp at h
      | some ts => exact xParse_good s (by omega) ts ht W
  · exact xParse_bad s hs h W

end Go.Proofs.YtepkfkfedmbmnaaGreatDoor

namespace Go.Proofs.YtepkfkfedmbmnaaGreatDoor
open Go.RowKit
set_option maxRecDepth 100000

theorem nameB_bad {s : List UInt8} (h : allErr s ≠ 0) : nameB s = false := by
  unfold allErr at h
  unfold nameB
  by_cases h1 : 4000 < s.length
  · rw [if_pos h1]
  · rw [if_neg h1] at h ⊢
    cases ht : toksO s with
    | none => rfl
    | some ts => rw [ht] at h; simp at h
def oneB (s : List UInt8) : List Tok → Bool
  | [x] => isName1 x && (x.t == s)
  | _ => false
theorem nameB_of {s : List UInt8} {ts : List Tok} (hs : s.length ≤ 4000) (h : toksO s = some ts) : nameB s = oneB s ts := by
  unfold nameB
  rw [if_neg (by omega), h]
  rcases ts with _ | ⟨x, _ | ⟨y, r⟩⟩ <;> rfl
--BEGIN1
set_option maxHeartbeats 4000000 in
theorem xIsName_bad (s : List UInt8) (hs : s.length ≤ 9223372036854775807) (h : allErr s ≠ 0) (W : World) : Calls Tryz.prog 46 #[S s] W fun e w' => e = .returned (.bool (nameB s)) ∧ Bl W w' := by
  have HN := Lib.hid (nameB_bad h)
  have hb0 : (allErr s == 0) = false := by simpa using h
  go_enter Tryz.func46, Tryz.ntmps46
  go_wp2_with fail
  refine (rAll_all s hs _).mono ?_
  rintro e w1 ⟨v, rfl, hb, -⟩
  go_wp2
  go_ret
  exact ⟨by rw [HN.out]; rfl, hb⟩
set_option maxHeartbeats 4000000 in
theorem xIsName_good (s : List UInt8) (hs : s.length ≤ 4000) (ts : List Tok) (h : toksO s = some ts) (W : World) : Calls Tryz.prog 46 #[S s] W fun e w' => e = .returned (.bool (nameB s)) ∧ Bl W w' := by
  have hAll := fun W' => xAll_good s hs ts h W'
  have hN := nameB_of hs h
  have HN := Lib.hid hN
  have HALL := Lib.hid hAll
  have hfew := few_toks h
  clear hN hAll h
  rcases ts with _ | ⟨x, _ | ⟨y, r⟩⟩
  case nil =>
    go_enter Tryz.func46, Tryz.ntmps46
    go_wp2_with fail
    refine (HALL.out _).mono ?_
    rintro e w1 ⟨g, cap, rfl, hb, -⟩
    go_wp2
    go_ret
    exact ⟨by rw [HN.out]; rfl, hb⟩
  case cons.cons =>
    have hl : ¬ (((x :: y :: r) ++ [endTok s.length]).length : Int) = 2 := by simp; omega
    have hlb : ((((x :: y :: r) ++ [endTok s.length]).length : Int) == 2) = false := by simpa using hl
    generalize hq : ((x :: y :: r) ++ [endTok s.length]) = q at *
    go_enter Tryz.func46, Tryz.ntmps46
    go_wp2_with fail
    refine (HALL.out _).mono ?_
    rintro e w1 ⟨g, cap, rfl, hb, -⟩
    go_wp2
    go_ret
    exact ⟨by rw [HN.out]; rfl, hb⟩
  case cons.nil =>
    obtain ⟨xk, xp, xt, xa, xb, xc⟩ := x
    go_enter Tryz.func46, Tryz.ntmps46
    go_wp2_with fail
    refine (HALL.out _).mono ?_
    rintro e w1 ⟨g, cap, rfl, hb, hrow⟩
    have h6 := hrow 0 (by simp)
    obtain ⟨c0, -, c2, -, -, -⟩ := h6
    simp only [List.cons_append, List.nil_append, List.getElem_cons_zero, Nat.zero_mul, Nat.zero_add] at c0 c2
    have HB := Lib.hid hb
    clear hb hrow
    by_cases hk : xk = 1
    case neg =>
      have hkb : (xk == 1) = false := by simpa using hk
      have HE := Lib.hid (show nameB s = false from by rw [HN.out]; simp [oneB, isName1, hk])
      go_wp2
      go_ret
      exact ⟨by rw [HE.out]; rfl, HB.out⟩
    subst hk
    by_cases ht : xt = s
    case neg =>
      have htb : (xt == s) = false := by simpa using ht
      have HE := Lib.hid (show nameB s = false from by rw [HN.out]; simp [oneB, ht])
      go_wp2
      go_ret
      exact ⟨by rw [HE.out]; rfl, HB.out⟩
    subst ht
    cases hkw : kwB xt
    all_goals
      have HKW := Lib.hid hkw
      have HE := Lib.hid (show nameB xt = !(kwB xt) from by rw [HN.out]; simp [oneB, isName1])
      clear hkw
      go_wp2_with fail
      (with_reducible refine (rKeyword_any xt _).mono ?_)
      rintro e w2 ⟨rfl, hb2⟩
      rw [HKW.out]
      go_wp2
      go_ret
      exact ⟨by rw [HE.out, HKW.out]; rfl, HB.out.call hb2⟩
--END1
theorem xIsName_any (s : List UInt8) (hs : s.length ≤ 9223372036854775807) (W : World) : Calls Tryz.prog 46 #[S s] W fun e w' => e = .returned (.bool (nameB s)) ∧ Bl W w' := by
  by_cases h : allErr s = 0
  · unfold allErr at h
    by_cases h1 : 4000 < s.length
    · rw [if_pos h1] at h; cases h
    · rw [if_neg h1] at h
      cases ht : toksO s with
      | none => rw [ht] at h; simp at h
      | some ts => exact xIsName_good s (by omega) ts ht W
  · exact xIsName_bad s hs h W

end Go.Proofs.YtepkfkfedmbmnaaGreatDoor

