/- Regions that draw their order, walked by a schedule: what yields the same in every world that meets S is taken first, the rest comes up alone. -/
import Derived.Deep.RegionHeld3
namespace Go.Proofs.YtdhaddldmooniaaGreatDoor

/-- (i, true): operation i is taken first; (i, false): it comes up alone. -/
def schedB (ops : Array Oper) : List (Nat × Bool) → Array Bool → Bool
  | [], listed => (Region.ready .any ops listed).isEmpty
  | (i, true) :: σ, listed => Region.free .any ops listed i && (Region.ready .any ops listed).contains i && schedB ops σ (listed.setIfInBounds i true)
  | (i, false) :: σ, listed => (Region.ready .any ops listed == [i]) && schedB ops σ (listed.setIfInBounds i true)

def wpSched (P : Program) (ops : Array Oper) (Q : Exit → Act → World → Prop) (S : World → Prop) : List (Nat × Bool) → Act → World → Prop
  | [], a, w => Q .normal a w
  | (i, true) :: σ, a, w => ∃ o v, ops[i]? = some o ∧ YieldsIf P ops S o v a ∧ wpSched P ops Q S σ (a.put o.dst v) w
  | (i, false) :: σ, a, w => wpOp P ops Q i (fun a' w' => S w' ∧ wpSched P ops Q S σ a' w') a w

variable {P : Program} {ops : Array Oper} {Q : Exit → Act → World → Prop} {S : World → Prop}

theorem sched_any (hs : Region.noSelect ops = true) (hQ : ∀ (c : _) (a : Act) (d : Option Tmp) (v : Value) (w : World), Q (.panic c) (a.put d v) w → Q (.panic c) a w) :
    ∀ (σ : List (Nat × Bool)) (listed : Array Bool) (a : Act) (w : World), schedB ops σ listed = true → S w → wpSched P ops Q S σ a w → wpAnyH P .any ops Q S σ.length listed a w
  | [], listed, a, w, hB, _, h => wpAnyH_done (by simpa [schedB] using hB) h _
  | (i, true) :: σ, listed, a, w, hB, hS, h => by
    simp only [schedB, Bool.and_eq_true] at hB
    obtain ⟨o, v, ho, hy, h⟩ := h
    exact wpAnyH_take ho hs hB.1.1 hB.1.2 (fun c a w => hQ c a _ _ w) hy hS (sched_any hs hQ σ _ _ _ hB.2 hS h)
  | (i, false) :: σ, listed, a, w, hB, hS, h => by
    simp only [schedB, Bool.and_eq_true, beq_iff_eq] at hB
    refine wpAnyH_all hB.1 (by simp) ?_
    intro j hj
    obtain rfl : j = i := by simpa using hj
    exact wpOp_mono (fun a' w' hk => ⟨hk.1, sched_any hs hQ σ _ _ _ hB.2 hk.1 hk.2⟩) h

theorem wp_region_sched {id : Nat} {a : Act} {w : World} (S : World → Prop) (σ : List (Nat × Bool)) (hm : P.follows .mixedOrders = true) (hn : σ.length = ops.size) (hs : Region.noSelect ops = true) (hB : schedB ops σ (Array.replicate ops.size false) = true)
    (hQ : ∀ (c : _) (a : Act) (d : Option Tmp) (v : Value) (w : World), Q (.panic c) (a.put d v) w → Q (.panic c) a w) (hS : S w.drew) (h : wpSched P ops Q S σ a w.drew) : (Code.region id ops true).wp P Q a w :=
  wp_region_held hm (by have := sched_any hs hQ σ _ a _ hB hS h; rw [hn] at this; exact this)

theorem sched_nil {a : Act} {w : World} (h : Q .normal a w) : wpSched P ops Q S [] a w := h
theorem sched_take {i : Nat} {σ : List (Nat × Bool)} {a : Act} {w : World} {o : Oper} {v : Value} (ho : ops[i]? = some o) (hw : Region.wanted o (yielded ops a.tmps) = true) (hy : ∀ w, S w → (execOp a.eval o).run P w = .ok (.value v) w)
    (h : wpSched P ops Q S σ (a.put o.dst v) w) : wpSched P ops Q S ((i, true) :: σ) a w := ⟨o, v, ho, .inl ⟨hw, hy⟩, h⟩
theorem sched_skip {i : Nat} {σ : List (Nat × Bool)} {a : Act} {w : World} {o : Oper} (ho : ops[i]? = some o) (hw : Region.wanted o (yielded ops a.tmps) = false)
    (h : wpSched P ops Q S σ (a.put o.dst undef) w) : wpSched P ops Q S ((i, true) :: σ) a w := ⟨o, undef, ho, .inr ⟨hw, rfl⟩, h⟩
theorem sched_call {i : Nat} {σ : List (Nat × Bool)} {a : Act} {w : World} {o : Oper} (ho : ops[i]? = some o)
    (h : ∀ K : Act → World → Prop, Shut (∀ a' w', S w' → (S w' → wpSched P ops Q S σ a' w') → K a' w') → if Region.wanted o (yielded ops a.tmps) = true then Oper.wp P o a w K Q else K (a.put o.dst undef) w) :
    wpSched P ops Q S ((i, false) :: σ) a w := wpOp_step ho (fun K hK => h K (fun a' w' hS hW => hK a' w' ⟨hS, hW hS⟩))

end Go.Proofs.YtdhaddldmooniaaGreatDoor
