/- Regions that draw their order, walked by a schedule: what yields the same in every world that meets S is taken first, the rest comes up alone. Regions that draw their order, walked by a schedule that branches: where two operations may come next, both ways are walked. -/
import Derived.Deep.RegionHeld3
namespace Go.Proofs.YtepkfkfedmbmnaaGreatDoor

/-- (i, true): operation i is taken first; (i, false): it comes up alone. -/
def schedB (ops : Array Oper) : List (Nat × Bool) → Array Bool → Bool
  | [], listed => (Region.ready .any ops listed).isEmpty
  | (i, true) :: σ, listed => Region.free .any ops listed i && (Region.ready .any ops listed).contains i && schedB ops σ (listed.setIfInBounds i true)
  | (i, false) :: σ, listed => (Region.ready .any ops listed == [i]) && schedB ops σ (listed.setIfInBounds i true)

def wpSched (P : Program) (ops : Array Oper) (Q : Exit → Act → World → Prop) (S : World → Prop) : List (Nat × Bool) → Act → World → Prop
  | [], a, w => Q .normal a w
  | (i, true) :: σ, a, w => ∃ o v, ops[i]? = some o ∧ YieldsIf P ops S o v a ∧ wpSched P ops Q S σ (a.put o.dst v) w
  | (i, false) :: σ, a, w => wpOp P ops Q i (fun a' w' => S w' ∧ wpSched P ops Q S σ a' w') a w

variable {P : Program} {ops : Array Oper} {Q : Exit → Act → World → Prop} {S : World → Prop}

theorem sched_any (hs : Region.noSelect ops = true) (hQ : ∀ (c : _) (a : Act) (d : Option Tmp) (v : Value) (w : World), Q (.panic c) (a.put d v) w → Q (.panic c) a w) :
    ∀ (σ : List (Nat × Bool)) (listed : Array Bool) (a : Act) (w : World), schedB ops σ listed = true → S w → wpSched P ops Q S σ a w → wpAnyH P .any ops Q S σ.length listed a w
  | [], listed, a, w, hB, _, h => wpAnyH_done (by simpa [schedB] using hB) h _
  | (i, true) :: σ, listed, a, w, hB, hS, h => by
    simp only [schedB, Bool.and_eq_true] at hB
    obtain ⟨o, v, ho, hy, h⟩ := h
    exact wpAnyH_take ho hs hB.1.1 hB.1.2 (fun c a w => hQ c a _ _ w) hy hS (sched_any hs hQ σ _ _ _ hB.2 hS h)
  | (i, false) :: σ, listed, a, w, hB, hS, h => by
    simp only [schedB, Bool.and_eq_true, beq_iff_eq] at hB
    refine wpAnyH_all hB.1 (by simp) ?_
    intro j hj
    obtain rfl : j = i := by simpa using hj
    exact wpOp_mono (fun a' w' hk => ⟨hk.1, sched_any hs hQ σ _ _ _ hB.2 hk.1 hk.2⟩) h

theorem wp_region_sched {id : Nat} {a : Act} {w : World} (S : World → Prop) (σ : List (Nat × Bool)) (hm : P.follows .mixedOrders = true) (hn : σ.length = ops.size) (hs : Region.noSelect ops = true) (hB : schedB ops σ (Array.replicate ops.size false) = true)
    (hQ : ∀ (c : _) (a : Act) (d : Option Tmp) (v : Value) (w : World), Q (.panic c) (a.put d v) w → Q (.panic c) a w) (hS : S w.drew) (h : wpSched P ops Q S σ a w.drew) : (Code.region id ops true).wp P Q a w :=
  wp_region_held hm (by have := sched_any hs hQ σ _ a _ hB hS h; rw [hn] at this; exact this)

theorem sched_nil {a : Act} {w : World} (h : Q .normal a w) : wpSched P ops Q S [] a w := h
theorem sched_take {i : Nat} {σ : List (Nat × Bool)} {a : Act} {w : World} {o : Oper} {v : Value} (ho : ops[i]? = some o) (hw : Region.wanted o (yielded ops a.tmps) = true) (hy : ∀ w, S w → (execOp a.eval o).run P w = .ok (.value v) w)
    (h : wpSched P ops Q S σ (a.put o.dst v) w) : wpSched P ops Q S ((i, true) :: σ) a w := ⟨o, v, ho, .inl ⟨hw, hy⟩, h⟩
theorem sched_skip {i : Nat} {σ : List (Nat × Bool)} {a : Act} {w : World} {o : Oper} (ho : ops[i]? = some o) (hw : Region.wanted o (yielded ops a.tmps) = false)
    (h : wpSched P ops Q S σ (a.put o.dst undef) w) : wpSched P ops Q S ((i, true) :: σ) a w := ⟨o, undef, ho, .inr ⟨hw, rfl⟩, h⟩
theorem sched_call {i : Nat} {σ : List (Nat × Bool)} {a : Act} {w : World} {o : Oper} (ho : ops[i]? = some o)
    (h : ∀ K : Act → World → Prop, Shut (∀ a' w', S w' → (S w' → wpSched P ops Q S σ a' w') → K a' w') → if Region.wanted o (yielded ops a.tmps) = true then Oper.wp P o a w K Q else K (a.put o.dst undef) w) :
    wpSched P ops Q S ((i, false) :: σ) a w := wpOp_step ho (fun K hK => h K (fun a' w' hS hW => hK a' w' ⟨hS, hW hS⟩))

/-! The same, the operation found by dropping those ahead of it. -/
theorem get_drop {ops : Array Oper} {i : Nat} {o : Oper} {r : List Oper} (h : ops.toList.drop i = o :: r) : ops[i]? = some o := by
  have h0 : (ops.toList.drop i)[0]? = some o := by rw [h]; rfl
  rw [List.getElem?_drop, Nat.add_zero, Array.getElem?_toList] at h0
  exact h0
theorem sched_take' {i : Nat} {σ : List (Nat × Bool)} {a : Act} {w : World} {o : Oper} {v : Value} {r : List Oper} (ho : ops.toList.drop i = o :: r) (hw : Region.wanted o (yielded ops a.tmps) = true) (hy : ∀ w, S w → (execOp a.eval o).run P w = .ok (.value v) w)
    (h : wpSched P ops Q S σ (a.put o.dst v) w) : wpSched P ops Q S ((i, true) :: σ) a w := sched_take (get_drop ho) hw hy h
theorem sched_skip' {i : Nat} {σ : List (Nat × Bool)} {a : Act} {w : World} {o : Oper} {r : List Oper} (ho : ops.toList.drop i = o :: r) (hw : Region.wanted o (yielded ops a.tmps) = false)
    (h : wpSched P ops Q S σ (a.put o.dst undef) w) : wpSched P ops Q S ((i, true) :: σ) a w := sched_skip (get_drop ho) hw h
theorem sched_call' {i : Nat} {σ : List (Nat × Bool)} {a : Act} {w : World} {o : Oper} {r : List Oper} (ho : ops.toList.drop i = o :: r)
    (h : ∀ K : Act → World → Prop, Shut (∀ a' w', S w' → (S w' → wpSched P ops Q S σ a' w') → K a' w') → if Region.wanted o (yielded ops a.tmps) = true then Oper.wp P o a w K Q else K (a.put o.dst undef) w) :
    wpSched P ops Q S ((i, false) :: σ) a w := sched_call (get_drop ho) h
/-- A slot is set. -/
theorem put_list {l l' : List Value} {ds : List Deferred} {d : Nat} {v : Value} (h : l.set d v = l') : Act.put { tmps := l.toArray, defers := ds } (some d) v = { tmps := l'.toArray, defers := ds } := by
  subst h; simp [Act.put]

end Go.Proofs.YtepkfkfedmbmnaaGreatDoor

namespace Go.Proofs.YtepkfkfedmbmnaaGreatDoor

/-- take: taken first; one: it comes up alone; two: one of two comes up. -/
inductive Sc where
  | done
  | take (i : Nat) (s : Sc)
  | one (i : Nat) (s : Sc)
  | two (i j : Nat) (s t : Sc)
def scB (ops : Array Oper) : Nat → Sc → Array Bool → Bool
  | n, .done, listed => n == 0 && (Region.ready .any ops listed).isEmpty
  | 0, .take _ _, _ => false
  | n + 1, .take i s, listed => Region.free .any ops listed i && (Region.ready .any ops listed).contains i && scB ops n s (listed.setIfInBounds i true)
  | 0, .one _ _, _ => false
  | n + 1, .one i s, listed => (Region.ready .any ops listed == [i]) && scB ops n s (listed.setIfInBounds i true)
  | 0, .two _ _ _ _, _ => false
  | n + 1, .two i j s t, listed => (Region.ready .any ops listed == [i, j]) && scB ops n s (listed.setIfInBounds i true) && scB ops n t (listed.setIfInBounds j true)

def wpSc (P : Program) (ops : Array Oper) (Q : Exit → Act → World → Prop) (S : World → Prop) : Sc → Act → World → Prop
  | .done, a, w => Q .normal a w
  | .take i s, a, w => ∃ o v, ops[i]? = some o ∧ YieldsIf P ops S o v a ∧ wpSc P ops Q S s (a.put o.dst v) w
  | .one i s, a, w => wpOp P ops Q i (fun a' w' => S w' ∧ wpSc P ops Q S s a' w') a w
  | .two i j s t, a, w => wpOp P ops Q i (fun a' w' => S w' ∧ wpSc P ops Q S s a' w') a w ∧ wpOp P ops Q j (fun a' w' => S w' ∧ wpSc P ops Q S t a' w') a w

variable {P : Program} {ops : Array Oper} {Q : Exit → Act → World → Prop} {S : World → Prop}

theorem sc_any (hs : Region.noSelect ops = true) (hQ : ∀ (c : _) (a : Act) (d : Option Tmp) (v : Value) (w : World), Q (.panic c) (a.put d v) w → Q (.panic c) a w) :
    ∀ (s : Sc) (n : Nat) (listed : Array Bool) (a : Act) (w : World), scB ops n s listed = true → S w → wpSc P ops Q S s a w → wpAnyH P .any ops Q S n listed a w
  | .done, n, listed, a, w, hB, _, h => by
    simp only [scB, Bool.and_eq_true, beq_iff_eq] at hB
    obtain ⟨rfl, hB⟩ := hB
    exact wpAnyH_done (by simpa using hB) h _
  | .take i s, 0, _, _, _, hB, _, _ => by simp [scB] at hB
  | .take i s, n + 1, listed, a, w, hB, hS, h => by
    simp only [scB, Bool.and_eq_true] at hB
    obtain ⟨o, v, ho, hy, h⟩ := h
    exact wpAnyH_take ho hs hB.1.1 hB.1.2 (fun c a w => hQ c a _ _ w) hy hS (sc_any hs hQ s _ _ _ _ hB.2 hS h)
  | .one i s, 0, _, _, _, hB, _, _ => by simp [scB] at hB
  | .one i s, n + 1, listed, a, w, hB, hS, h => by
    simp only [scB, Bool.and_eq_true, beq_iff_eq] at hB
    refine wpAnyH_all hB.1 (by simp) ?_
    intro j hj
    obtain rfl : j = i := by simpa using hj
    exact wpOp_mono (fun a' w' hk => ⟨hk.1, sc_any hs hQ s _ _ _ _ hB.2 hk.1 hk.2⟩) h
  | .two i k s t, 0, _, _, _, hB, _, _ => by simp [scB] at hB
  | .two i k s t, n + 1, listed, a, w, hB, hS, h => by
    simp only [scB, Bool.and_eq_true, beq_iff_eq] at hB
    refine wpAnyH_all hB.1.1 (by simp) ?_
    intro j hj
    have hj' : j = i ∨ j = k := by simpa using hj
    rcases hj' with rfl | rfl
    · exact wpOp_mono (fun a' w' hk => ⟨hk.1, sc_any hs hQ s _ _ _ _ hB.1.2 hk.1 hk.2⟩) h.1
    · exact wpOp_mono (fun a' w' hk => ⟨hk.1, sc_any hs hQ t _ _ _ _ hB.2 hk.1 hk.2⟩) h.2

theorem wp_region_sc {id : Nat} {a : Act} {w : World} (S : World → Prop) (s : Sc) (hm : P.follows .mixedOrders = true) (hs : Region.noSelect ops = true) (hB : scB ops ops.size s (Array.replicate ops.size false) = true)
    (hQ : ∀ (c : _) (a : Act) (d : Option Tmp) (v : Value) (w : World), Q (.panic c) (a.put d v) w → Q (.panic c) a w) (hS : S w.drew) (h : wpSc P ops Q S s a w.drew) : (Code.region id ops true).wp P Q a w :=
  wp_region_held hm (sc_any hs hQ s _ _ a _ hB hS h)

theorem sc_nil {a : Act} {w : World} (h : Q .normal a w) : wpSc P ops Q S .done a w := h
theorem sc_take' {i : Nat} {s : Sc} {a : Act} {w : World} {o : Oper} {v : Value} {r : List Oper} (ho : ops.toList.drop i = o :: r) (hw : Region.wanted o (yielded ops a.tmps) = true) (hy : ∀ w, S w → (execOp a.eval o).run P w = .ok (.value v) w)
    (h : wpSc P ops Q S s (a.put o.dst v) w) : wpSc P ops Q S (.take i s) a w := ⟨o, v, get_drop ho, .inl ⟨hw, hy⟩, h⟩
theorem sc_skip' {i : Nat} {s : Sc} {a : Act} {w : World} {o : Oper} {r : List Oper} (ho : ops.toList.drop i = o :: r) (hw : Region.wanted o (yielded ops a.tmps) = false)
    (h : wpSc P ops Q S s (a.put o.dst undef) w) : wpSc P ops Q S (.take i s) a w := ⟨o, undef, get_drop ho, .inr ⟨hw, rfl⟩, h⟩
theorem sc_call' {i : Nat} {s : Sc} {a : Act} {w : World} {o : Oper} {r : List Oper} (ho : ops.toList.drop i = o :: r)
    (h : ∀ K : Act → World → Prop, Shut (∀ a' w', S w' → (S w' → wpSc P ops Q S s a' w') → K a' w') → if Region.wanted o (yielded ops a.tmps) = true then Oper.wp P o a w K Q else K (a.put o.dst undef) w) :
    wpSc P ops Q S (.one i s) a w := wpOp_step (get_drop ho) (fun K hK => h K (fun a' w' hS hW => hK a' w' ⟨hS, hW hS⟩))
theorem sc_two {i j : Nat} {s t : Sc} {a : Act} {w : World} (h1 : wpSc P ops Q S (.one i s) a w) (h2 : wpSc P ops Q S (.one j t) a w) : wpSc P ops Q S (.two i j s t) a w := ⟨h1, h2⟩

end Go.Proofs.YtepkfkfedmbmnaaGreatDoor

