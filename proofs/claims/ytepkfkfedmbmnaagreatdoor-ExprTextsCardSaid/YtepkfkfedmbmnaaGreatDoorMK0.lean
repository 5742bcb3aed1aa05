/- Moved out of another text: ReadsP.own XParsePost append_ex infoEx infoEx_parts nameB_ba -/
import Derived.Test.YtepkfkfedmbmnaaGreatDoorMX
import Derived.Test.YtepkfkfedmbmnaaGreatDoorMQ
import Derived.Test.YtepkfkfedmbmnaaGreatDoorMW
import Derived.Maps.AppendAt
import Derived.Deep.CutBlock
namespace Go.Proofs.YtepkfkfedmbmnaaGreatDoor
open Go.RowKit
set_option maxRecDepth 100000

theorem infoEx : (Tryz.prog.info? 30).map (fun i => (i.zero, i.size, i.bytes)) = some (some (.agg #[.int .i64 0, .int .i64 0, .int .i64 0, .string ⟨#[]⟩, .string ⟨#[]⟩, .string ⟨#[]⟩, .int .i64 0, .slice none 0 0]), 8, 104) := by kernel_rfl
theorem infoEx_parts : ∃ i, Tryz.prog.info? 30 = some i ∧ i.zero = some (.agg #[.int .i64 0, .int .i64 0, .int .i64 0, .string ⟨#[]⟩, .string ⟨#[]⟩, .string ⟨#[]⟩, .int .i64 0, .slice none 0 0]) ∧ i.size = 8 ∧ i.bytes = 104 := by
  cases hi : Tryz.prog.info? 30 with
  | none => have := infoEx; rw [hi] at this; cases this
  | some i =>
    have := infoEx
    rw [hi] at this
    simp only [Option.map_some, Option.some.injEq, Prod.mk.injEq] at this
    exact ⟨i, rfl, this.1, this.2.1, this.2.2⟩
/-- One expression is appended to a row that the call owns. -/
theorem append_ex {o : Oper} {a : Act} {w : World} {K : Act → World → Prop} {Q : Exit → Act → World → Prop} (s x : Operand) (ho : o.op = .call { callee := .builtin .append, args := #[s, x], argTypes := #[28, 28] })
    (base : Nat) (v : Value) (acc : List (Ex × Value)) (hs : a.eval s = v) (hown : w.ownsRow base 30 8 v acc.length (rowE acc)) (b : Nat) (y : Ex) (a2 : Option Addr) (n2 c2 : Nat) (hx : a.eval x = .slice (some ⟨b, 0, none⟩) 1 1) {t : TypeId}
    (hb : w.heap[b]? = some (.cells #[.int .i64 y.k, .int .i64 y.v.1, .int .i64 y.v.2.1, S y.v.2.2, S y.t, S y.n, .int .i64 y.o, .slice a2 n2 c2] t (0, 0))) (hfew : acc.length ≤ 1000000) (hbase : base ≤ w.heap.size)
    (h : ∀ v' w', w'.ownsRow base 30 8 v' (acc.length + 1) (rowE (acc ++ [(y, .slice a2 n2 c2)])) → w.grownBy w' v.ownBlock → (v'.ownBlock = v.ownBlock ∨ v'.ownBlock = some w.heap.size) → K (a.put o.dst v') w') : Oper.wp Tryz.prog o a w K Q := by
  obtain ⟨i, hi, hz0, hz1, hz2⟩ := infoEx_parts
  obtain ⟨v', w', hr, h2, h3, h4, h5⟩ := run_append_own_at (P := Tryz.prog) w base 28 o.type 30 i (.agg #[.int .i64 0, .int .i64 0, .int .i64 0, .string ⟨#[]⟩, .string ⟨#[]⟩, .string ⟨#[]⟩, .int .i64 0, .slice none 0 0]) 8 104 Tryz.underlying28 hi hz0 hz1 hz2 rfl (by decide) v acc.length (rowE acc) hown ⟨b, 0, none⟩ 1 1 (cells8 y (.slice a2 n2 c2)) rfl
    (by
      intro j u hj
      have : w.cell? ⟨b, 0 + j, none⟩ = some u := by
        rw [Lib.cell_of_heap hb, Nat.zero_add, ← hj]
        unfold cells8
        match j with
        | 0 | 1 | 2 | 3 | 4 | 5 | 6 | 7 => rfl
        | n + 8 => simp
      have e : (⟨b, 0, none⟩ : Addr).add j = ⟨b, 0 + j, none⟩ := by simp [Addr.add]; intro h; exact h.symm
      rw [e]
      exact this)
    (by intro u hu; simp [cells8] at hu; rcases hu with rfl | rfl | rfl | rfl | rfl | rfl | rfl | rfl <;> rfl) (by unfold maxLen; omega) (by omega) hbase
  unfold Oper.wp execOp
  simp only [ho, resolve, invoke, builtin, Sem.run_bind, Sem.run_pure, Result.andThen_ok, List.map_toArray, List.map_cons, List.map_nil, hs, hx, hr]
  refine h v' w' ?_ h3 h5
  rw [rowE_snoc]
  exact h2

theorem ReadsP.own {m : Nat} {v v' : Value} {A B : World} {sv : Value} {l : List Ex} (h : ReadsP (fun b => m ≤ b ∧ some b ≠ v.ownBlock) A sv l) (hg : A.grownBy B v.ownBlock) (hat : v'.ownBlock = v.ownBlock ∨ v'.ownBlock = some A.heap.size) : ReadsP (fun b => m ≤ b ∧ some b ≠ v'.ownBlock) B sv l :=
  (h.of (q := fun b => (m ≤ b ∧ some b ≠ v.ownBlock) ∧ some b ≠ v'.ownBlock) fun b hl hb => ⟨hb, by
    rcases hat with e | e
    · rw [e]; exact hb.2
    · rw [e]; intro h; injection h with h; omega⟩).keep (fun b hb => ⟨hb.1.1, hb.2⟩) fun b hb hl => hg.block b hl hb.1.2
theorem xAll_good (l : List UInt8) (hl : l.length ≤ 4000) (ts : List Tok) (h : toksO l = some ts) (W : World) : Calls Tryz.prog 13 #[S l] W fun e w' =>
    ∃ g cap, e = .returned (.tuple #[.slice (some ⟨g, 0, none⟩) (ts ++ [endTok l.length]).length cap, .int .i64 0]) ∧ Bl W w' ∧ Row w' g (ts ++ [endTok l.length]) := by
  have h0 : allErr l = 0 := by unfold allErr; rw [if_neg (by omega), h, if_neg (by simp)]
  refine (rAll_any l hl W).mono ?_
  rintro e w' ⟨v, he, hb, ho⟩
  have ho' := ho ts h0 h
  obtain ⟨g, cap, rfl⟩ := own_slice ho'
  exact ⟨g, cap, by rw [he, h0]; simp, hb, got_at ho'⟩
theorem parseX_bad {s : List UInt8} (h : allErr s ≠ 0) : parseX s = (allErr s, zeroE) := by
  unfold parseX
  unfold allErr at h ⊢
  by_cases h1 : 4000 < s.length
  · rw [if_pos h1, if_pos h1]
  · rw [if_neg h1] at h ⊢
    rw [if_neg h1]
    cases ht : toksO s with
    | none => simp
    | some ts => rw [ht] at h; simp at h

def XParsePost (s : List UInt8) (W : World) (e : Ending) (w' : World) : Prop := ∃ v, ReadsE w' (parseX s).2 v ∧ e = .returned (.tuple #[v, .int .i64 (parseX s).1]) ∧ Bl W w'
theorem nameB_bad {s : List UInt8} (h : allErr s ≠ 0) : nameB s = false := by
  unfold allErr at h
  unfold nameB
  by_cases h1 : 4000 < s.length
  · rw [if_pos h1]
  · rw [if_neg h1] at h ⊢
    cases ht : toksO s with
    | none => rfl
    | some ts => rw [ht] at h; simp at h
def oneB (s : List UInt8) : List Tok → Bool
  | [x] => isName1 x && (x.t == s)
  | _ => false
theorem nameB_of {s : List UInt8} {ts : List Tok} (hs : s.length ≤ 4000) (h : toksO s = some ts) : nameB s = oneB s ts := by
  unfold nameB
  rw [if_neg (by omega), h]
  rcases ts with _ | ⟨x, _ | ⟨y, r⟩⟩ <;> rfl
set_option maxHeartbeats 4000000 in
theorem xIsName_bad (s : List UInt8) (hs : s.length ≤ 9223372036854775807) (h : allErr s ≠ 0) (W : World) : Calls Tryz.prog 46 #[S s] W fun e w' => e = .returned (.bool (nameB s)) ∧ Bl W w' := by
  have HN := Lib.hid (nameB_bad h)
  have hb0 : (allErr s == 0) = false := by simpa using h
  go_enter Tryz.func46, Tryz.ntmps46
  go_wp2_with fail
  refine (rAll_all s hs _).mono ?_
  rintro e w1 ⟨v, rfl, hb, -⟩
  go_wp2
  go_ret
  exact ⟨by rw [HN.out]; rfl, hb⟩
set_option maxHeartbeats 4000000 in
theorem xIsName_good (s : List UInt8) (hs : s.length ≤ 4000) (ts : List Tok) (h : toksO s = some ts) (W : World) : Calls Tryz.prog 46 #[S s] W fun e w' => e = .returned (.bool (nameB s)) ∧ Bl W w' := by
  have hAll := fun W' => xAll_good s hs ts h W'
  have hN := nameB_of hs h
  have HN := Lib.hid hN
  have HALL := Lib.hid hAll
  have hfew := few_toks h
  clear hN hAll h
  rcases ts with _ | ⟨x, _ | ⟨y, r⟩⟩
  case nil =>
    go_enter Tryz.func46, Tryz.ntmps46
    go_wp2_with fail
    refine (HALL.out _).mono ?_
    rintro e w1 ⟨g, cap, rfl, hb, -⟩
    go_wp2
    go_ret
    exact ⟨by rw [HN.out]; rfl, hb⟩
  case cons.cons =>
    have hl : ¬ (((x :: y :: r) ++ [endTok s.length]).length : Int) = 2 := by simp; omega
    have hlb : ((((x :: y :: r) ++ [endTok s.length]).length : Int) == 2) = false := by simpa using hl
    generalize hq : ((x :: y :: r) ++ [endTok s.length]) = q at *
    go_enter Tryz.func46, Tryz.ntmps46
    go_wp2_with fail
    refine (HALL.out _).mono ?_
    rintro e w1 ⟨g, cap, rfl, hb, -⟩
    go_wp2
    go_ret
    exact ⟨by rw [HN.out]; rfl, hb⟩
  case cons.nil =>
    obtain ⟨xk, xp, xt, xa, xb, xc⟩ := x
    go_enter Tryz.func46, Tryz.ntmps46
    go_wp2_with fail
    refine (HALL.out _).mono ?_
    rintro e w1 ⟨g, cap, rfl, hb, hrow⟩
    have h6 := hrow 0 (by simp)
    obtain ⟨c0, -, c2, -, -, -⟩ := h6
    simp only [List.cons_append, List.nil_append, List.getElem_cons_zero, Nat.zero_mul, Nat.zero_add] at c0 c2
    have HB := Lib.hid hb
    clear hb hrow
    by_cases hk : xk = 1
    case neg =>
      have hkb : (xk == 1) = false := by simpa using hk
      have HE := Lib.hid (show nameB s = false from by rw [HN.out]; simp [oneB, isName1, hk])
      go_wp2
      go_ret
      exact ⟨by rw [HE.out]; rfl, HB.out⟩
    subst hk
    by_cases ht : xt = s
    case neg =>
      have htb : (xt == s) = false := by simpa using ht
      have HE := Lib.hid (show nameB s = false from by rw [HN.out]; simp [oneB, ht])
      go_wp2
      go_ret
      exact ⟨by rw [HE.out]; rfl, HB.out⟩
    subst ht
    cases hkw : kwB xt
    all_goals
      have HKW := Lib.hid hkw
      have HE := Lib.hid (show nameB xt = !(kwB xt) from by rw [HN.out]; simp [oneB, isName1])
      clear hkw
      go_wp2_with fail
      (with_reducible refine (rKeyword_any xt _).mono ?_)
      rintro e w2 ⟨rfl, hb2⟩
      rw [HKW.out]
      go_wp2
      go_ret
      exact ⟨by rw [HE.out, HKW.out]; rfl, HB.out.call hb2⟩
theorem xIsName_any (s : List UInt8) (hs : s.length ≤ 9223372036854775807) (W : World) : Calls Tryz.prog 46 #[S s] W fun e w' => e = .returned (.bool (nameB s)) ∧ Bl W w' := by
  by_cases h : allErr s = 0
  · unfold allErr at h
    by_cases h1 : 4000 < s.length
    · rw [if_pos h1] at h; cases h
    · rw [if_neg h1] at h
      cases ht : toksO s with
      | none => rw [ht] at h; simp at h
      | some ts => exact xIsName_good s (by omega) ts ht W
  · exact xIsName_bad s hs h W

end Go.Proofs.YtepkfkfedmbmnaaGreatDoor
