/- Blocks of two and of eight cells, cell by cell. How many parts an expression has. -/
import Derived.Test.YtepkfkfedmbmnaaGreatDoorMS
import Derived.Test.YtepkfkfedmbmnaaGreatDoorME
import Derived.Test.YtepkfkfedmbmnaaGreatDoorMB
namespace Go.Proofs.YtepkfkfedmbmnaaGreatDoor
open Go.RowKit
set_option maxRecDepth 100000

abbrev set2 (W : World) (b : Nat) (y0 y1 : Value) : World := (W.setCell ⟨b, 0, none⟩ y0).setCell ⟨b, 1, none⟩ y1
abbrev set8 (W : World) (b : Nat) (y0 y1 y2 y3 y4 y5 y6 y7 : Value) : World := (((((((W.setCell ⟨b, 0, none⟩ y0).setCell ⟨b, 1, none⟩ y1).setCell ⟨b, 2, none⟩ y2).setCell ⟨b, 3, none⟩ y3).setCell ⟨b, 4, none⟩ y4).setCell ⟨b, 5, none⟩ y5).setCell ⟨b, 6, none⟩ y6).setCell ⟨b, 7, none⟩ y7
theorem set8_heap {w : World} {b : Nat} {x0 x1 x2 x3 x4 x5 x6 x7 : Value} {t : TypeId} (h : w.heap[b]? = some (.cells #[x0, x1, x2, x3, x4, x5, x6, x7] t (0, 0))) (y0 y1 y2 y3 y4 y5 y6 y7 : Value) :
    (set8 w b y0 y1 y2 y3 y4 y5 y6 y7).heap[b]? = some (.cells #[y0, y1, y2, y3, y4, y5, y6, y7] t (0, 0)) := by
  simp [set8, World.setCell, Array.getElem?_modify, h]
theorem set2_heap {w : World} {b : Nat} {x0 x1 : Value} {t : TypeId} (h : w.heap[b]? = some (.cells #[x0, x1] t (0, 0))) (y0 y1 : Value) :
    (set2 w b y0 y1).heap[b]? = some (.cells #[y0, y1] t (0, 0)) := by
  simp [set2, World.setCell, Array.getElem?_modify, h]
theorem set2_other (W : World) {b i : Nat} (hi : i ≠ b) (y0 y1 : Value) : (set2 W b y0 y1).heap[i]? = W.heap[i]? := heap_two_other W hi y0 y1
theorem set8_other (W : World) {b i : Nat} (hi : i ≠ b) (y0 y1 y2 y3 y4 y5 y6 y7 : Value) : (set8 W b y0 y1 y2 y3 y4 y5 y6 y7).heap[i]? = W.heap[i]? := by
  rw [set8, heap_set_other _ ⟨b, 7, none⟩ _ _ hi, heap_set_other _ ⟨b, 6, none⟩ _ _ hi, heap_set_other _ ⟨b, 5, none⟩ _ _ hi, heap_set_other _ ⟨b, 4, none⟩ _ _ hi, heap_set_other _ ⟨b, 3, none⟩ _ _ hi, heap_set_other _ ⟨b, 2, none⟩ _ _ hi, heap_set_other _ ⟨b, 1, none⟩ _ _ hi, heap_set_other _ ⟨b, 0, none⟩ _ _ hi]
theorem bl_set2 {w W : World} {b : Nat} (h : Bl w W) (hb : w.heap.size ≤ b) (y0 y1 : Value) : Bl w (set2 W b y0 y1) := (h.set hb _).set hb _
theorem bl_set8 {w W : World} {b : Nat} (h : Bl w W) (hb : w.heap.size ≤ b) (y0 y1 y2 y3 y4 y5 y6 y7 : Value) : Bl w (set8 W b y0 y1 y2 y3 y4 y5 y6 y7) :=
  (((((((h.set hb _).set hb _).set hb _).set hb _).set hb _).set hb _).set hb _).set hb _
theorem set2_size (W : World) (b : Nat) (y0 y1 : Value) : (set2 W b y0 y1).heap.size = W.heap.size := by simp [set2]
theorem set8_size (W : World) (b : Nat) (y0 y1 y2 y3 y4 y5 y6 y7 : Value) : (set8 W b y0 y1 y2 y3 y4 y5 y6 y7).heap.size = W.heap.size := by simp [set8]
/-- A block of eight cells, cell by cell. -/
theorem eight {W : World} {b : Nat} {x0 x1 x2 x3 x4 x5 x6 x7 : Value} {t : TypeId} (h : W.heap[b]? = some (.cells #[x0, x1, x2, x3, x4, x5, x6, x7] t (0, 0))) :
    (W.cell? ⟨b, 0, none⟩ = some x0 ∧ W.cell? ⟨b, 1, none⟩ = some x1 ∧ W.cell? ⟨b, 2, none⟩ = some x2 ∧ W.cell? ⟨b, 3, none⟩ = some x3 ∧ W.cell? ⟨b, 4, none⟩ = some x4 ∧ W.cell? ⟨b, 5, none⟩ = some x5 ∧ W.cell? ⟨b, 6, none⟩ = some x6 ∧ W.cell? ⟨b, 7, none⟩ = some x7) ∧
    (W.frozen? ⟨b, 0, none⟩ = false ∧ W.frozen? ⟨b, 1, none⟩ = false ∧ W.frozen? ⟨b, 2, none⟩ = false ∧ W.frozen? ⟨b, 3, none⟩ = false ∧ W.frozen? ⟨b, 4, none⟩ = false ∧ W.frozen? ⟨b, 5, none⟩ = false ∧ W.frozen? ⟨b, 6, none⟩ = false ∧ W.frozen? ⟨b, 7, none⟩ = false) :=
  ⟨⟨by rw [Lib.cell_of_heap h]; rfl, by rw [Lib.cell_of_heap h]; rfl, by rw [Lib.cell_of_heap h]; rfl, by rw [Lib.cell_of_heap h]; rfl, by rw [Lib.cell_of_heap h]; rfl, by rw [Lib.cell_of_heap h]; rfl, by rw [Lib.cell_of_heap h]; rfl, by rw [Lib.cell_of_heap h]; rfl⟩,
    ⟨Lib.frozen_of_heap h 0, Lib.frozen_of_heap h 1, Lib.frozen_of_heap h 2, Lib.frozen_of_heap h 3, Lib.frozen_of_heap h 4, Lib.frozen_of_heap h 5, Lib.frozen_of_heap h 6, Lib.frozen_of_heap h 7⟩⟩
/-- A made row of texts. -/
theorem strs_block {W : World} {b : Nat} {xs : List (List UInt8)} {t : TypeId} (n : Nat) (hn : n = xs.length) (h : W.heap[b]? = some (.cells (xs.map fun s => S s).toArray t (0, 0))) : Strs W (.slice (some ⟨b, 0, none⟩) n n) xs := by
  subst hn
  refine ⟨_, xs.length, rfl, fun j hj => ⟨b, 0, rfl, ?_⟩⟩
  rw [Lib.cell_of_heap h]
  simp [hj]

/-- The slice sv holds these expressions, all of it in blocks of which p holds. -/
inductive ReadsP (p : Nat → Prop) (W : World) : Value → List Ex → Prop where
  | mk (a : Option Addr) (cap : Nat) (l : List Ex) (s : Nat → Value) (h1 : ∀ j x, l[j]? = some x → ∃ b off, a = some ⟨b, off, none⟩ ∧ p b ∧ At8 W b (off + j * 8) x (s j)) (h2 : ∀ j x, l[j]? = some x → ReadsP p W (s j) x.args) : ReadsP p W (.slice a l.length cap) l
def ReadsXP (p : Nat → Prop) (W : World) (x : Ex) (v : Value) : Prop := ∃ sv, v = EV x.k x.v x.t x.n x.o sv ∧ ReadsP p W sv x.args
/-- All of it in blocks from n on. -/
abbrev ReadsA (n : Nat) : World → Value → List Ex → Prop := ReadsP fun b => n ≤ b
abbrev ReadsX (n : Nat) : World → Ex → Value → Prop := ReadsXP fun b => n ≤ b
theorem ReadsP.keep {p q : Nat → Prop} {W W' : World} (hm : ∀ b, p b → q b) (hk : ∀ b, p b → b < W.heap.size → W'.heap[b]? = W.heap[b]?) {sv : Value} {l : List Ex} (h : ReadsP p W sv l) : ReadsP q W' sv l := by
  induction h with
  | mk a cap l s h1 _ ih =>
    refine .mk a cap l s (fun j x hx => ?_) ih
    obtain ⟨b, off, e, hb, h8⟩ := h1 j x hx
    exact ⟨b, off, e, hm b hb, h8.keep (hk b hb (by have := World.block_lt_of_cell? _ _ h8.1; simpa using this))⟩
theorem ReadsP.of {p q : Nat → Prop} {W : World} {sv : Value} {l : List Ex} (h : ReadsP p W sv l) (hm : ∀ b, b < W.heap.size → p b → q b) : ReadsP q W sv l := by
  induction h with
  | mk a cap l s h1 _ ih =>
    refine .mk a cap l s (fun j x hx => ?_) ih
    obtain ⟨b, off, e, hb, h8⟩ := h1 j x hx
    exact ⟨b, off, e, hm b (by have := World.block_lt_of_cell? _ _ h8.1; simpa using this) hb, h8⟩
theorem ReadsA.low {n m : Nat} {W : World} {sv : Value} {l : List Ex} (h : ReadsA n W sv l) (hm : m ≤ n) : ReadsA m W sv l := h.keep (fun _b hb => Nat.le_trans hm hb) fun _ _ _ => rfl
theorem ReadsP.bl {p : Nat → Prop} {W W' : World} {sv : Value} {l : List Ex} (h : ReadsP p W sv l) (hb : Bl W W') : ReadsP p W' sv l := h.keep (fun _ h => h) fun b _ hl => hb.block b hl
theorem ReadsP.reads {p : Nat → Prop} {W : World} {sv : Value} {l : List Ex} (h : ReadsP p W sv l) : ReadsL W sv l := by
  induction h with
  | mk a cap l s h1 _ ih =>
    refine .mk a cap l s (fun j x hx => ?_) ih
    obtain ⟨b, off, e, hb, h8⟩ := h1 j x hx
    exact ⟨b, off, e, h8⟩
theorem ReadsP.shape {p : Nat → Prop} {W : World} {sv : Value} {l : List Ex} (h : ReadsP p W sv l) : ∃ a cap, sv = .slice a l.length cap := by
  cases h with
  | mk a cap l s h1 h2 => exact ⟨a, cap, rfl⟩
theorem ReadsXP.keep {p q : Nat → Prop} {W W' : World} (hm : ∀ b, p b → q b) (hk : ∀ b, p b → b < W.heap.size → W'.heap[b]? = W.heap[b]?) {x : Ex} {v : Value} (h : ReadsXP p W x v) : ReadsXP q W' x v := by
  obtain ⟨sv, e, h⟩ := h
  exact ⟨sv, e, h.keep hm hk⟩
theorem ReadsX.low {n m : Nat} {W : World} {x : Ex} {v : Value} (h : ReadsX n W x v) (hm : m ≤ n) : ReadsX m W x v := h.keep (fun _b hb => Nat.le_trans hm hb) fun _ _ _ => rfl
theorem ReadsXP.bl {p : Nat → Prop} {W W' : World} {x : Ex} {v : Value} (h : ReadsXP p W x v) (hb : Bl W W') : ReadsXP p W' x v := h.keep (fun _ h => h) fun b _ hl => hb.block b hl
theorem ReadsXP.reads {p : Nat → Prop} {W : World} {x : Ex} {v : Value} (h : ReadsXP p W x v) : ReadsE W x v := by
  obtain ⟨sv, e, h⟩ := h
  exact ⟨sv, e, h.reads⟩
theorem ReadsP.nil (p : Nat → Prop) (W : World) (a : Option Addr) (cap : Nat) : ReadsP p W (.slice a 0 cap) [] := .mk a cap [] (fun _ => .slice none 0 0) (fun j x h => by simp at h) (fun j x h => by simp at h)
theorem p_one {p : Nat → Prop} {W : World} {b : Nat} {t : TypeId} {x : Ex} {sv : Value} (cap : Nat) (hn : p b) (hb : W.heap[b]? = some (.cells #[.int .i64 x.k, .int .i64 x.v.1, .int .i64 x.v.2.1, S x.v.2.2, S x.t, S x.n, .int .i64 x.o, sv] t (0, 0))) (hr : ReadsP p W sv x.args) :
    ReadsP p W (.slice (some ⟨b, 0, none⟩) 1 cap) [x] := by
  refine .mk (some ⟨b, 0, none⟩) cap [x] (fun _ => sv) (fun j y hy => ?_) (fun j y hy => ?_)
  · match j, hy with
    | 0, hy =>
      injection hy with hy
      subst hy
      exact ⟨b, 0, rfl, hn, at8_block hb rfl⟩
    | j + 1, hy => simp at hy
  · match j, hy with
    | 0, hy =>
      injection hy with hy
      subst hy
      exact hr
    | j + 1, hy => simp at hy
theorem p_two {p : Nat → Prop} {W : World} {b : Nat} {t : TypeId} {x y : Ex} {sv sw : Value} (cap : Nat) (hn : p b)
    (hb : W.heap[b]? = some (.cells #[.int .i64 x.k, .int .i64 x.v.1, .int .i64 x.v.2.1, S x.v.2.2, S x.t, S x.n, .int .i64 x.o, sv, .int .i64 y.k, .int .i64 y.v.1, .int .i64 y.v.2.1, S y.v.2.2, S y.t, S y.n, .int .i64 y.o, sw] t (0, 0)))
    (hr : ReadsP p W sv x.args) (hs : ReadsP p W sw y.args) : ReadsP p W (.slice (some ⟨b, 0, none⟩) 2 cap) [x, y] := by
  refine .mk (some ⟨b, 0, none⟩) cap [x, y] (fun j => if j = 0 then sv else sw) (fun j z hz => ?_) (fun j z hz => ?_)
  · match j, hz with
    | 0, hz =>
      injection hz with hz
      subst hz
      exact ⟨b, 0, rfl, hn, at8_block hb rfl⟩
    | 1, hz =>
      injection hz with hz
      subst hz
      exact ⟨b, 0, rfl, hn, at8_block hb rfl⟩
    | j + 2, hz => simp at hz
  · match j, hz with
    | 0, hz =>
      injection hz with hz
      subst hz
      exact hr
    | 1, hz =>
      injection hz with hz
      subst hz
      exact hs
    | j + 2, hz => simp at hz
theorem readsX_op {p : Nat → Prop} {W : World} {sv : Value} {l : List Ex} (o : Int) (h : ReadsP p W sv l) : ReadsXP p W (opE o l) (EV 3 (0, 0, []) [] [] o sv) := ⟨sv, rfl, h⟩
theorem readsX_zero (p : Nat → Prop) (W : World) : ReadsXP p W zeroE (EV 0 (0, 0, []) [] [] 0 (.slice none 0 0)) := ⟨_, rfl, ReadsP.nil p W none 0⟩
theorem readsX_val (p : Nat → Prop) (W : World) (v : Int × Int × List UInt8) : ReadsXP p W (valE v) (EV 1 v [] [] 0 (.slice none 0 0)) := ⟨_, rfl, ReadsP.nil p W none 0⟩
theorem readsX_col (p : Nat → Prop) (W : World) (t m : List UInt8) : ReadsXP p W (colE t m) (EV 2 (0, 0, []) t m 0 (.slice none 0 0)) := ⟨_, rfl, ReadsP.nil p W none 0⟩
/-- A row that the call owns reads as its expressions. -/
theorem a_one {n : Nat} {W : World} {b : Nat} {t : TypeId} {x : Ex} {sv : Value} (cap : Nat) (hn : n ≤ b) (hb : W.heap[b]? = some (.cells #[.int .i64 x.k, .int .i64 x.v.1, .int .i64 x.v.2.1, S x.v.2.2, S x.t, S x.n, .int .i64 x.o, sv] t (0, 0))) (hr : ReadsA n W sv x.args) :
    ReadsA n W (.slice (some ⟨b, 0, none⟩) 1 cap) [x] := p_one cap hn hb hr
theorem p_own {p : Nat → Prop} {W : World} {base g cap : Nat} {l : List (Ex × Value)} (h : W.ownsRow base 30 8 (.slice (some ⟨g, 0, none⟩) l.length cap) l.length (rowE l)) (hn : p g) (hr : ∀ q ∈ l, ReadsP p W q.2 q.1.args) : ReadsP p W (.slice (some ⟨g, 0, none⟩) l.length cap) (l.map (·.1)) := by
  have hm : l.length = (l.map (·.1)).length := by simp
  rw [hm]
  refine .mk (some ⟨g, 0, none⟩) cap (l.map (·.1)) (fun j => ((l[j]?).map (·.2)).getD (.slice none 0 0)) (fun j x hx => ?_) (fun j x hx => ?_)
  · rw [List.getElem?_map] at hx
    obtain ⟨q, hp, rfl⟩ := Option.map_eq_some_iff.1 hx
    refine ⟨g, 0, rfl, hn, ?_⟩
    rw [hp]
    refine cells8_at fun i hi => ?_
    have hat := rowE_at l j q hp i hi
    have hlt := (List.getElem?_eq_some_iff.1 hp).1
    have hc := h.cellAt (j * 8 + i) (by omega)
    rw [Nat.zero_add]
    exact hc.trans hat
  · rw [List.getElem?_map] at hx
    obtain ⟨q, hp, rfl⟩ := Option.map_eq_some_iff.1 hx
    rw [hp]
    exact hr q (List.mem_of_getElem? hp)

/-- A region that draws, its world behind the draw under a name of its own. -/
theorem wp_region_sd {P : Program} {ops : Array Oper} {Q : Exit → Act → World → Prop} {id : Nat} {a : Act} {w : World} (S : World → Prop) (s : Sc) (hm : P.follows .mixedOrders = true) (hs : Region.noSelect ops = true) (hB : scB ops ops.size s (Array.replicate ops.size false) = true)
    (hQ : ∀ (c : _) (a : Act) (d : Option Tmp) (v : Value) (w : World), Q (.panic c) (a.put d v) w → Q (.panic c) a w) (hS : S w.drew) (h : ∀ wd, Hid (Bl w wd) → S wd → wpSc P ops Q S s a wd) : (Code.region id ops true).wp P Q a w :=
  wp_region_sc S s hm hs hB hQ hS (h _ ((Bl.refl w).drew) hS)
/-- What a reading comes to, by its error. -/
def Says (r : Res) (k : Nat) (x : Ex) (c : Int) : Prop := (c = 0 ∧ r = .good k x) ∨ ((c = 260 ∨ c = 261) ∧ r = .bad c)
/-- What a reading of the reference answers. -/
def RPost (g cap : Nat) (ts : List Tok) (W : World) (r : Res) (e : Ending) (w' : World) : Prop :=
  ∃ k x v c, k < ts.length ∧ ReadsX W.heap.size w' x v ∧ e = .returned (.tuple #[RS g ts.length cap k, v, .int .i64 c]) ∧ Bl W w' ∧ Says r k x c
theorem RPost.from {g cap : Nat} {ts : List Tok} {W0 W : World} {r : Res} {e : Ending} {w' : World} (hb : Bl W0 W) (h : RPost g cap ts W r e w') : RPost g cap ts W0 r e w' := by
  obtain ⟨k, x, v, c, h1, h2, h3, h4, h5⟩ := h
  exact ⟨k, x, v, c, h1, h2.low hb.size, h3, hb.call h4, h5⟩
theorem Says.bind {r : Res} {k : Nat} {x : Ex} {c : Int} (h : Says r k x c) (g : Ex → Ex) : Says (r.bind fun k y => .good k (g y)) k (g x) c := by
  rcases h with ⟨rfl, rfl⟩ | ⟨hc, rfl⟩
  · exact .inl ⟨rfl, rfl⟩
  · exact .inr ⟨hc, rfl⟩
theorem Says.no {r : Res} {k : Nat} {x : Ex} {c : Int} (h : Says r k x c) (hc : c ≠ 0) : (c = 260 ∨ c = 261) ∧ r = .bad c := by
  rcases h with ⟨rfl, _⟩ | h
  · exact absurd rfl hc
  · exact h
theorem Says.yes {r : Res} {k : Nat} {x : Ex} (h : Says r k x 0) : r = .good k x := by
  rcases h with ⟨_, h⟩ | ⟨hc, _⟩
  · exact h
  · omega
theorem bind_out {r : Res} {g : Nat → Ex → Res} (h : r.bind g ≠ .out) : r ≠ .out := fun e => h (by rw [e]; rfl)
theorem keep_two {A B : World} {a x : Nat} {oa ox : Obj} (h : A.heap[a]? = some oa ∧ A.heap[x]? = some ox) (hb : Bl A B) : B.heap[a]? = some oa ∧ B.heap[x]? = some ox :=
  ⟨(hb.block _ (Array.getElem?_eq_some_iff.1 h.1).1).trans h.1, (hb.block _ (Array.getElem?_eq_some_iff.1 h.2).1).trans h.2⟩
theorem keep_set2 {A : World} {a x b : Nat} {oa ox : Obj} (h : A.heap[a]? = some oa ∧ A.heap[x]? = some ox) (ha : a ≠ b) (hx : x ≠ b) {y0 y1 : Value} : (set2 A b y0 y1).heap[a]? = some oa ∧ (set2 A b y0 y1).heap[x]? = some ox :=
  ⟨(set2_other A ha _ _).trans h.1, (set2_other A hx _ _).trans h.2⟩
theorem keep_set8 {A : World} {a x b : Nat} {oa ox : Obj} (h : A.heap[a]? = some oa ∧ A.heap[x]? = some ox) (ha : a ≠ b) (hx : x ≠ b) {y0 y1 y2 y3 y4 y5 y6 y7 : Value} : (set8 A b y0 y1 y2 y3 y4 y5 y6 y7).heap[a]? = some oa ∧ (set8 A b y0 y1 y2 y3 y4 y5 y6 y7).heap[x]? = some ox :=
  ⟨(set8_other A ha _ _ _ _ _ _ _ _).trans h.1, (set8_other A hx _ _ _ _ _ _ _ _).trans h.2⟩
/-- The places of a reading's answer: a stream, an expression. -/
theorem fin_cells {w : World} {b c : Nat} (hbc : b ≠ c) {x0 x1 z0 z1 z2 z3 z4 z5 z6 z7 : Value} {t t' : TypeId} (hr : w.heap[b]? = some (.cells #[x0, x1] t (0, 0))) (hx : w.heap[c]? = some (.cells #[z0, z1, z2, z3, z4, z5, z6, z7] t' (0, 0))) (y0 y1 v0 v1 v2 v3 v4 v5 v6 v7 : Value) :
    ((set8 (set2 w b y0 y1) c v0 v1 v2 v3 v4 v5 v6 v7).cell? ⟨b, 0, none⟩ = some y0 ∧ (set8 (set2 w b y0 y1) c v0 v1 v2 v3 v4 v5 v6 v7).cell? ⟨b, 1, none⟩ = some y1) ∧
    ((set8 (set2 w b y0 y1) c v0 v1 v2 v3 v4 v5 v6 v7).cell? ⟨c, 0, none⟩ = some v0 ∧ (set8 (set2 w b y0 y1) c v0 v1 v2 v3 v4 v5 v6 v7).cell? ⟨c, 1, none⟩ = some v1 ∧ (set8 (set2 w b y0 y1) c v0 v1 v2 v3 v4 v5 v6 v7).cell? ⟨c, 2, none⟩ = some v2 ∧
      (set8 (set2 w b y0 y1) c v0 v1 v2 v3 v4 v5 v6 v7).cell? ⟨c, 3, none⟩ = some v3 ∧ (set8 (set2 w b y0 y1) c v0 v1 v2 v3 v4 v5 v6 v7).cell? ⟨c, 4, none⟩ = some v4 ∧ (set8 (set2 w b y0 y1) c v0 v1 v2 v3 v4 v5 v6 v7).cell? ⟨c, 5, none⟩ = some v5 ∧
      (set8 (set2 w b y0 y1) c v0 v1 v2 v3 v4 v5 v6 v7).cell? ⟨c, 6, none⟩ = some v6 ∧ (set8 (set2 w b y0 y1) c v0 v1 v2 v3 v4 v5 v6 v7).cell? ⟨c, 7, none⟩ = some v7) := by
  have h2 := (set8_other (set2 w b y0 y1) hbc v0 v1 v2 v3 v4 v5 v6 v7).trans (set2_heap hr y0 y1)
  have h8 := set8_heap ((set2_other w (Ne.symm hbc) y0 y1).trans hx) v0 v1 v2 v3 v4 v5 v6 v7
  exact ⟨⟨(cells2 h2).1, (cells2 h2).2.1⟩, (eight h8).1⟩
theorem fin_bl {w0 w : World} {b c : Nat} (h : Bl w0 w) (hb : w0.heap.size ≤ b) (hc : w0.heap.size ≤ c) (y0 y1 v0 v1 v2 v3 v4 v5 v6 v7 : Value) : Bl w0 (set8 (set2 w b y0 y1) c v0 v1 v2 v3 v4 v5 v6 v7) := bl_set8 (bl_set2 h hb _ _) hc _ _ _ _ _ _ _ _
theorem fin_readsP {p : Nat → Prop} {m : Nat} {w : World} {b c : Nat} {x : Ex} {v : Value} (h : ReadsXP p w x v) (hm : ∀ i, p i → m ≤ i ∧ i ≠ b ∧ i ≠ c) (y0 y1 v0 v1 v2 v3 v4 v5 v6 v7 : Value) : ReadsX m (set8 (set2 w b y0 y1) c v0 v1 v2 v3 v4 v5 v6 v7) x v :=
  h.keep (fun i hi => (hm i hi).1) fun i hi _ => (set8_other _ (hm i hi).2.2 _ _ _ _ _ _ _ _).trans (set2_other _ (hm i hi).2.1 _ _)
theorem fin_reads {n m : Nat} {w : World} {b c : Nat} {x : Ex} {v : Value} (h : ReadsX n w x v) (hm : m ≤ n) (hb : b < n) (hc : c < n) (y0 y1 v0 v1 v2 v3 v4 v5 v6 v7 : Value) : ReadsX m (set8 (set2 w b y0 y1) c v0 v1 v2 v3 v4 v5 v6 v7) x v :=
  fin_readsP h (fun i (hi : n ≤ i) => ⟨by omega, by omega, by omega⟩) y0 y1 v0 v1 v2 v3 v4 v5 v6 v7
/-- A frame of a reading: the stream, the answer's two places. -/
structure FrR (W w' : World) (g n cap k : Nat) : Prop where
  bl : Bl W w'
  s : w'.heap[W.heap.size]? = some (.cells #[.slice (some ⟨g, 0, none⟩) n cap, .int .i64 (k : Int)] 46 (0, 0))
  r : w'.heap[W.heap.size + 1]? = some (.cells #[.slice none 0 0, .int .i64 0] 46 (0, 0))
  x : w'.heap[W.heap.size + 1 + 1]? = some (.cells #[.int .i64 0, .int .i64 0, .int .i64 0, S [], S [], S [], .int .i64 0, .slice none 0 0] 30 (0, 0))
theorem FrR.next {W A B : World} {g n cap k : Nat} (h : FrR W A g n cap k) (hb : Bl A B) : FrR W B g n cap k :=
  ⟨h.bl.call hb, (hb.block _ (Array.getElem?_eq_some_iff.1 h.s).1).trans h.s, (hb.block _ (Array.getElem?_eq_some_iff.1 h.r).1).trans h.r, (hb.block _ (Array.getElem?_eq_some_iff.1 h.x).1).trans h.x⟩
theorem FrR.size {W A : World} {g n cap k : Nat} (h : FrR W A g n cap k) : W.heap.size + 2 < A.heap.size := (Array.getElem?_eq_some_iff.1 h.x).1
theorem FrR.start (W : World) (g n cap k : Nat) : FrR W (((W.alloc (.cells #[.slice (some ⟨g, 0, none⟩) n cap, .int .i64 (k : Int)] 46)).alloc (.cells #[.slice none 0 0, .int .i64 0] 46)).alloc (.cells #[.int .i64 0, .int .i64 0, .int .i64 0, S [], S [], S [], .int .i64 0, .slice none 0 0] 30)) g n cap k :=
  ⟨(((Bl.refl W).alloc _).alloc _).alloc _, three_0 _ _ _ _, three_1 _ _ _ _, heap_new' _ _ (by simp)⟩
/-- What reading a level comes to, nested so deep. -/
def rdR (ts : List Tok) (f n k d : Nat) : Res := if d ≤ 60 then runR ts f (.rd n k d) else .bad 260
/-- The reference reads so many steps of any level. -/
def AllR (f : Nat) : Prop := ∀ (W : World) (g cap : Nat) (ts : List Tok) (n k d : Nat) (n' d' : Int), n' = n → d' = d → Row W g ts → TokOK ts → ts.length ≤ 100000 → k < ts.length → n ≤ 7 → d ≤ 61 → rdR ts f n k d ≠ .out →
  Calls Tryz.prog 38 #[RS g ts.length cap k, .int .i64 n', .int .i64 d'] W (RPost g cap ts W (rdR ts f n k d))
theorem rdR_deeper (ts : List Tok) (f n k d : Nat) : rdR ts f n k (d + 1) = deeperR d (runR ts f (.rd n k (d + 1))) := by
  unfold rdR deeperR
  by_cases h : d < 60
  · rw [if_pos (by omega), if_pos h]
  · rw [if_neg (by omega), if_neg h]
theorem rdR_same (ts : List Tok) (f n k d : Nat) (hd : d ≤ 60) : rdR ts f n k d = runR ts f (.rd n k d) := by unfold rdR; rw [if_pos hd]

end Go.Proofs.YtepkfkfedmbmnaaGreatDoor

namespace Go.Proofs.YtepkfkfedmbmnaaGreatDoor
open Go.RowKit
set_option maxRecDepth 100000

mutual
/-- How many parts it has. -/
def partsE : Ex → Nat
  | .mk _ _ _ _ _ args => 1 + partssE args
def partssE : List Ex → Nat
  | [] => 0
  | x :: r => partsE x + partssE r
end
theorem parts_pos (x : Ex) : 1 ≤ partsE x := by cases x; simp only [partsE]; omega
theorem partss_mem : ∀ {l : List Ex} {y : Ex}, y ∈ l → partsE y ≤ partssE l
  | x :: r, y, h => by
    simp only [partssE]
    rcases List.mem_cons.1 h with rfl | h
    · omega
    · have := partss_mem h; omega
theorem partss_len : ∀ l : List Ex, l.length ≤ partssE l
  | [] => by simp [partssE]
  | x :: r => by
    have := partss_len r
    have := parts_pos x
    simp only [partssE, List.length_cons]
    omega
theorem parts_eta (x : Ex) : partsE x = 1 + partssE x.args := by cases x; simp only [partsE, Ex.args]
theorem parts_arg {x y : Ex} (h : y ∈ x.args) : partsE y < partsE x := by
  have := partss_mem h
  rw [parts_eta x]
  omega
theorem parts_len (x : Ex) : x.args.length < partsE x := by
  have := partss_len x.args
  rw [parts_eta x]
  omega
theorem partss_append (a b : List Ex) : partssE (a ++ b) = partssE a + partssE b := by
  induction a with
  | nil => simp [partssE]
  | cons x r ih => simp [partssE, ih]; omega
/-- A slice of expressions, in its form. -/
theorem ReadsL.shape {W : World} {sv : Value} {l : List Ex} (h : ReadsL W sv l) : ∃ a cap, sv = .slice a l.length cap ∧ ∀ j, (h : j < l.length) → ∃ b off s, a = some ⟨b, off, none⟩ ∧ At8 W b (off + j * 8) l[j] s ∧ ReadsL W s l[j].args := by
  cases h with
  | mk a cap l s h1 h2 =>
    refine ⟨a, cap, rfl, fun j hj => ?_⟩
    have hx : l[j]? = some l[j] := List.getElem?_eq_getElem hj
    obtain ⟨b, off, e, h8⟩ := h1 j _ hx
    exact ⟨b, off, s j, e, h8, h2 j _ hx⟩
theorem sums_drop {l : List Ex} {j : Nat} (hj : j < l.length) : sumsBs (l.drop j) = (sumsB l[j] || sumsBs (l.drop (j + 1))) := by
  rw [List.drop_eq_getElem_cons hj]
  rfl
theorem sames_drop {l m : List Ex} {j : Nat} (hj : j < l.length) (hk : j < m.length) : samesB (l.drop j) (m.drop j) = (sameB l[j] m[j] && samesB (l.drop (j + 1)) (m.drop (j + 1))) := by
  rw [List.drop_eq_getElem_cons hj, List.drop_eq_getElem_cons hk]
  rfl
theorem sames_len : ∀ {l m : List Ex}, samesB l m = true → l.length = m.length
  | [], [], _ => rfl
  | [], _ :: _, h => by simp [samesB] at h
  | _ :: _, [], h => by simp [samesB] at h
  | x :: r, y :: s, h => by
    simp only [samesB, Bool.and_eq_true] at h
    have := sames_len h.2
    simp [this]

/-! Each part of what is read has its own tokens. -/
def Job.made : Job → Nat
  | .rd _ _ _ => 0
  | .lp _ _ _ x => partsE x
  | .args _ _ _ acc => 1 + partssE acc
def Made (ts : List Tok) (j : Job) : Res → Prop
  | .good k x => k < ts.length ∧ partsE x + j.at ≤ j.made + k
  | _ => True
theorem Made.bind {ts : List Tok} {i j : Job} {r : Res} {g : Nat → Ex → Res} (h : Made ts i r) (hg : ∀ k x, k < ts.length → partsE x + i.at ≤ i.made + k → Made ts j (g k x)) : Made ts j (r.bind g) := by
  cases r with
  | out => exact trivial
  | bad e => exact trivial
  | good k x => exact hg k x h.1 h.2
theorem Made.deeper {ts : List Tok} {j : Job} {d : Nat} {r : Res} (h : Made ts j r) : Made ts j (deeperR d r) := by
  unfold deeperR
  split
  · exact h
  · exact trivial
theorem Made.less {ts : List Tok} {i j : Job} {r : Res} (h : Made ts i r) (hl : i.made + j.at ≤ j.made + i.at) : Made ts j r := by
  cases r with
  | out => exact trivial
  | bad e => exact trivial
  | good k x => exact ⟨h.1, by have := h.2; omega⟩
theorem parts_op (o : Int) (l : List Ex) : partsE (opE o l) = 1 + partssE l := by unfold opE; simp only [partsE]
theorem parts_val (v : Int × Int × List UInt8) : partsE (valE v) = 1 := by unfold valE; simp only [partsE, partssE]
theorem parts_col (t n : List UInt8) : partsE (colE t n) = 1 := by unfold colE; simp only [partsE, partssE]
theorem parts_call (nm : List UInt8) (l : List Ex) : partsE (callE nm l) = 1 + partssE l := by
  unfold callE
  split
  · exact parts_op _ _
  split
  · exact parts_op _ _
  split
  · simp only [partsE]
  · simp only [partsE]
theorem nextK_gt {ts : List Tok} (hT : TokOK ts) {k : Nat} {x : Tok} (hx : ts[k]? = some x) (h4 : x.k ≠ 4) : k < nextK ts.length k ∧ nextK ts.length k < ts.length := by
  have := nextK_of hT hx h4
  omega
theorem take1_le {ts : List Tok} (hT : TokOK ts) {s : List UInt8} {k k' : Nat} (hk : k < ts.length) (h : takeK ts k [s] = some k') : k < k' ∧ k' < ts.length := by
  have := takeK_le hT hk h
  simp only [List.length_singleton] at this
  omega

theorem run_parts {ts : List Tok} (hT : TokOK ts) : ∀ (f : Nat) (j : Job), j.at < ts.length → Made ts j (runR ts f j)
  | 0, j, _ => trivial
  | f + 1, j, hk => by
    have ih := run_parts hT f
    simp only [runR]
    cases j with
    | lp n k d x =>
      simp only [Job.at] at hk
      rw [step_lp]
      cases ht : takenK ts k (levelOps n) with
      | none => exact ⟨hk, by simp only [Job.at, Job.made]; omega⟩
      | some p =>
        obtain ⟨o, k'⟩ := p
        have h1 := takenK_le hT hk ht
        refine Made.bind (ih (.rd (n + 1) k' d) h1.2) fun k2 y hk2 hp => ?_
        simp only [Job.at, Job.made] at hp
        refine (ih (.lp n k2 d (opE o [x, y])) hk2).less ?_
        simp only [Job.at, Job.made]
        rw [parts_op]
        simp only [partssE]
        omega
    | args nm k d acc =>
      simp only [Job.at] at hk
      rw [step_args]
      refine Made.bind (i := .rd 0 k (d + 1)) (ih (.rd 0 k (d + 1)) hk).deeper fun k1 x hk1 hp => ?_
      simp only [Job.at, Job.made] at hp
      have he : partssE (acc ++ [x]) = partssE acc + partsE x := by rw [partss_append]; simp [partssE]
      cases hc : (if nm = sCoalesce then takeK ts k1 [[44]] else none) with
      | some k2 =>
        have h2 : k1 < k2 ∧ k2 < ts.length := by
          split at hc
          · exact take1_le hT hk1 hc
          · cases hc
        refine (ih (.args nm k2 d (acc ++ [x])) h2.2).less ?_
        simp only [Job.at, Job.made]
        omega
      | none =>
        simp only
        cases ht : takeK ts k1 [[41]] with
        | none => exact trivial
        | some k2 =>
          have := take1_le hT hk1 ht
          refine ⟨this.2, ?_⟩
          rw [parts_call]
          simp only [Job.at, Job.made]
          omega
    | rd n k d =>
      simp only [Job.at] at hk
      have called : ∀ (nm : List UInt8) (k2 : Nat), k < k2 → k2 < ts.length → Made ts (.rd n k d) (calledR ts (runR ts f) nm k2 d) := by
        intro nm k2 h1 h2
        have hargs : Made ts (.rd n k d) (runR ts f (.args nm k2 d [])) := (ih (.args nm k2 d []) h2).less (by simp only [Job.at, Job.made, partssE]; omega)
        unfold calledR
        split
        · exact trivial
        · split
          · cases ht : takeK ts k2 [[42], [41]] with
            | none => exact hargs
            | some k3 =>
              have := takeK_le hT h2 ht
              simp only [List.length_cons, List.length_nil] at this
              refine ⟨this.2, ?_⟩
              rw [parts_call]
              simp only [Job.at, Job.made, partssE]
              omega
          · exact hargs
      by_cases h2 : n = 2
      · subst h2
        rw [step_2]
        cases ht : takeK ts k [sNot] with
        | none => exact (ih (.rd 3 k d) hk).less (Nat.le_refl _)
        | some k' =>
          have h1 := take1_le hT hk ht
          refine Made.bind (i := .rd 2 k' (d + 1)) (ih (.rd 2 k' (d + 1)) h1.2).deeper fun k2 y hk2 hp => ⟨hk2, ?_⟩
          rw [parts_op]
          simp only [Job.at, Job.made, partssE] at hp ⊢
          omega
      by_cases h7 : n = 7
      · subst h7
        rw [step_7]
        cases ht : takeK ts k [[45]] with
        | some k' =>
          have h1 := take1_le hT hk ht
          refine Made.bind (i := .rd 7 k' (d + 1)) (ih (.rd 7 k' (d + 1)) h1.2).deeper fun k2 y hk2 hp => ⟨hk2, ?_⟩
          rw [parts_op]
          simp only [Job.at, Job.made, partssE] at hp ⊢
          omega
        | none =>
          simp only
          unfold aloneR
          obtain ⟨x, hx⟩ : ∃ x, ts[k]? = some x := ⟨_, List.getElem?_eq_getElem hk⟩
          rw [hx]
          simp only
          by_cases hv : x.k = 2
          · rw [if_pos hv]
            have := nextK_gt hT hx (by omega)
            refine ⟨this.2, ?_⟩
            rw [parts_val]
            simp only [Job.at, Job.made]
            omega
          rw [if_neg hv]
          cases hc : constR ts k [(sFalse, 0), (sTrue, 1), (sNull, 2)] with
          | some p =>
            obtain ⟨k', i⟩ := p
            have := constR_le hT hk hc
            refine ⟨this.2, ?_⟩
            rw [parts_val]
            simp only [Job.at, Job.made]
            omega
          | none =>
            simp only
            cases hp : takeK ts k [[40]] with
            | some k' =>
              have h1 := take1_le hT hk hp
              refine Made.bind (i := .rd 0 k' (d + 1)) (ih (.rd 0 k' (d + 1)) h1.2).deeper fun k2 y hk2 hq => ?_
              simp only [Job.at, Job.made] at hq
              cases ht2 : takeK ts k2 [[41]] with
              | none => exact trivial
              | some k3 =>
                have := take1_le hT hk2 ht2
                refine ⟨this.2, ?_⟩
                simp only [Job.at, Job.made]
                omega
            | none =>
              simp only
              cases hm : nameK ts k with
              | none => exact trivial
              | some p =>
                obtain ⟨nm, k1⟩ := p
                have h1 := nameK_le hT hm
                simp only
                cases hq : takeK ts k1 [[40]] with
                | some k2 =>
                  have := take1_le hT h1.2 hq
                  exact called nm k2 (by omega) this.2
                | none =>
                  simp only
                  cases hd : takeK ts k1 [[46]] with
                  | none =>
                    refine ⟨h1.2, ?_⟩
                    rw [parts_col]
                    simp only [Job.at, Job.made]
                    omega
                  | some k2 =>
                    have h3 := take1_le hT h1.2 hd
                    simp only
                    cases hm2 : nameK ts k2 with
                    | none => exact trivial
                    | some p2 =>
                      obtain ⟨c, k3⟩ := p2
                      have h4 := nameK_le hT hm2
                      refine ⟨h4.2, ?_⟩
                      rw [parts_col]
                      simp only [Job.at, Job.made]
                      omega
      by_cases h3 : n = 3
      · subst h3
        rw [step_3]
        unfold cmpR
        refine Made.bind (ih (.rd 4 k d) hk) fun k1 x hk1 hp => ?_
        simp only [Job.at, Job.made] at hp
        cases ht : takenK ts k1 (levelOps 3) with
        | some p =>
          obtain ⟨o, k2⟩ := p
          have h1 := takenK_le hT hk1 ht
          refine Made.bind (ih (.rd 4 k2 d) h1.2) fun k3 y hk3 hq => ⟨hk3, ?_⟩
          rw [parts_op]
          simp only [Job.at, Job.made, partssE] at hq ⊢
          omega
        | none =>
          simp only
          cases h1 : takeK ts k1 [sIs, sNull] with
          | some k2 =>
            have := takeK_le hT hk1 h1
            simp only [List.length_cons, List.length_nil] at this
            refine ⟨this.2, ?_⟩
            rw [parts_op]
            simp only [Job.at, Job.made, partssE]
            omega
          | none =>
            simp only
            cases h2 : takeK ts k1 [sIs, sNot, sNull] with
            | some k2 =>
              have := takeK_le hT hk1 h2
              simp only [List.length_cons, List.length_nil] at this
              refine ⟨this.2, ?_⟩
              rw [parts_op]
              simp only [Job.at, Job.made, partssE]
              omega
            | none => exact ⟨hk1, by simp only [Job.at, Job.made]; omega⟩
      rw [step_n _ _ _ _ h2 h7 h3]
      refine Made.bind (ih (.rd (n + 1) k d) hk) fun k1 x hk1 hp => ?_
      simp only [Job.at, Job.made] at hp
      exact (ih (.lp n k1 d x) hk1).less (by simp only [Job.at, Job.made]; omega)

end Go.Proofs.YtepkfkfedmbmnaaGreatDoor

