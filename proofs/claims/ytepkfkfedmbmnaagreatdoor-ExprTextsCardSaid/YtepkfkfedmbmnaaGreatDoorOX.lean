/- Arguments opened: expressions. -/
import Derived.Test.YtepkfkfedmbmnaaGreatDoorOS
import Derived.Test.YtepkfkfedmbmnaaGreatDoorMX
import Derived.WideShapes
namespace Go.Proofs.YtepkfkfedmbmnaaGreatDoor
open Go.ChangeShapes Go.WideShapes Go.ChangeAt Go.RowKit Go.Deep
set_option maxRecDepth 100000

theorem cellsT_Kind : Tryz.prog.cellsOf 24 = 1 := by kernel_rfl
theorem cellsT_int64 : Tryz.prog.cellsOf 2 = 1 := by kernel_rfl
theorem cellsT_string : Tryz.prog.cellsOf 9 = 1 := by kernel_rfl
theorem cellsT_ExprKind : Tryz.prog.cellsOf 23 = 1 := by kernel_rfl
theorem cellsT_Op : Tryz.prog.cellsOf 27 = 1 := by kernel_rfl
theorem cellsT_Value : Tryz.prog.cellsOf 26 = 3 := by kernel_rfl
theorem cellsT_sliceExpr : Tryz.prog.cellsOf 28 = 1 := by kernel_rfl
theorem cellsT_Expr : Tryz.prog.cellsOf 30 = 8 := by kernel_rfl
/-- All values' kinds in it fit. -/
inductive Kinds : Ex → Prop where
  | mk (k : Int) (v : Int × Int × List UInt8) (t n : List UInt8) (o : Int) (args : List Ex) (h : I64 v.1) (ha : ∀ y, y ∈ args → Kinds y) : Kinds (.mk k v t n o args)
instance : Inhabited Ex := ⟨zeroE⟩
section
variable {H : Type} {enc : TypeId × Value → H} {W : World} {base : Nat} {spare : Nat → Bool} {held : Bool}
theorem i64_wf {n : Int} (h : (Lit.int .i64 n).wf = true) : I64 n := by
  exact bounds_i64 h
theorem text_of_trod {n : Nat} {cs : List Value} {y : DataW H × List MemPlace} (h : DataW.trod enc Tryz.prog W base spare held n 9 cs = some y) : ∃ l : List UInt8, cs = [S l] ∧ l.length ≤ maxLen := by
  obtain ⟨s, e, _, hs⟩ := DataW.trod_string Tryz.underlying9 h
  obtain ⟨⟨s⟩⟩ := s
  exact ⟨s, e, by simpa [ByteArray.size] using hs⟩
theorem value_of_trod {n : Nat} {cs : List Value} {y : DataW H × List MemPlace} (h : DataW.trod enc Tryz.prog W base spare held n 26 cs = some y) : ∃ v : Int × Int × List UInt8, cs = [.int .i64 v.1, .int .i64 v.2.1, S v.2.2] ∧ I64 v.1 ∧ I64 v.2.1 ∧ v.2.2.length ≤ maxLen := by
  obtain ⟨ys, m, _, _, hlen, hyl, hf⟩ := DataW.trod_struct Tryz.underlying26 h
  rw [cellsT_Value] at hlen
  match cs, hlen with
  | [a, b, c], _ =>
    have h0 : DataW.trod enc Tryz.prog W base spare held m 24 (([a, b, c].drop 0).take (Tryz.prog.cellsOf 24)) = ys[0]? := hf 0 _ rfl
    have h1 : DataW.trod enc Tryz.prog W base spare held m 2 (([a, b, c].drop 1).take (Tryz.prog.cellsOf 2)) = ys[1]? := hf 1 _ rfl
    have h2 : DataW.trod enc Tryz.prog W base spare held m 9 (([a, b, c].drop 2).take (Tryz.prog.cellsOf 9)) = ys[2]? := hf 2 _ rfl
    have hs : ys.length = 3 := hyl
    simp only [cellsT_Kind, cellsT_int64, cellsT_string, List.drop_zero, List.drop_succ_cons, List.take_succ_cons, List.take_zero] at h0 h1 h2
    rw [List.getElem?_eq_getElem (by omega)] at h0 h1 h2
    obtain ⟨i0, e0, _, w0⟩ := DataW.trod_int Tryz.underlying24 h0
    obtain ⟨i1, e1, _, w1⟩ := DataW.trod_int Tryz.underlying2 h1
    obtain ⟨l, e2, hl⟩ := text_of_trod h2
    simp only [List.cons.injEq, and_true] at e0 e1 e2
    subst e0 e1 e2
    exact ⟨(i0, i1, l), rfl, i64_wf w0, i64_wf w1, hl⟩
/-- What the cells of an expression tell. -/
theorem ex_of_trod : ∀ (n : Nat) (cs : List Value) (y : DataW H × List MemPlace), DataW.trod enc Tryz.prog W base spare held n 30 cs = some y → ∃ x sv, cs = cells8 x sv ∧ ReadsL W sv x.args ∧ Fits x ∧ Kinds x := by
  intro n
  induction n using Nat.strongRecOn with
  | ind n ih =>
    intro cs y h
    obtain ⟨ys, m, rfl, _, hlen, hyl, hf⟩ := DataW.trod_struct Tryz.underlying30 h
    rw [cellsT_Expr] at hlen
    match cs, hlen with
    | [a0, a1, a2, a3, a4, a5, a6, a7], _ =>
      have h0 : DataW.trod enc Tryz.prog W base spare held m 23 (([a0, a1, a2, a3, a4, a5, a6, a7].drop 0).take (Tryz.prog.cellsOf 23)) = ys[0]? := hf 0 _ rfl
      have h1 : DataW.trod enc Tryz.prog W base spare held m 26 (([a0, a1, a2, a3, a4, a5, a6, a7].drop 1).take (Tryz.prog.cellsOf 26)) = ys[1]? := hf 1 _ rfl
      have h2 : DataW.trod enc Tryz.prog W base spare held m 9 (([a0, a1, a2, a3, a4, a5, a6, a7].drop 4).take (Tryz.prog.cellsOf 9)) = ys[2]? := hf 2 _ rfl
      have h3 : DataW.trod enc Tryz.prog W base spare held m 9 (([a0, a1, a2, a3, a4, a5, a6, a7].drop 5).take (Tryz.prog.cellsOf 9)) = ys[3]? := hf 3 _ rfl
      have h4 : DataW.trod enc Tryz.prog W base spare held m 27 (([a0, a1, a2, a3, a4, a5, a6, a7].drop 6).take (Tryz.prog.cellsOf 27)) = ys[4]? := hf 4 _ rfl
      have h5 : DataW.trod enc Tryz.prog W base spare held m 28 (([a0, a1, a2, a3, a4, a5, a6, a7].drop 7).take (Tryz.prog.cellsOf 28)) = ys[5]? := hf 5 _ rfl
      have hs : ys.length = 6 := hyl
      simp only [cellsT_ExprKind, cellsT_Value, cellsT_string, cellsT_Op, cellsT_sliceExpr, List.drop_zero, List.drop_succ_cons, List.take_succ_cons, List.take_zero] at h0 h1 h2 h3 h4 h5
      rw [List.getElem?_eq_getElem (by omega)] at h0 h1 h2 h3 h4 h5
      obtain ⟨k, e0, _, _⟩ := DataW.trod_int Tryz.underlying23 h0
      obtain ⟨v, e1, hi0, hi, _⟩ := value_of_trod h1
      obtain ⟨t, e2, _⟩ := text_of_trod h2
      obtain ⟨nm, e3, _⟩ := text_of_trod h3
      obtain ⟨o, e4, _, _⟩ := DataW.trod_int Tryz.underlying27 h4
      simp only [List.cons.injEq, and_true] at e0 e1 e2 e3 e4
      obtain ⟨rfl, rfl, rfl⟩ := e1
      subst e0 e2 e3 e4
      suffices hl : ∃ l, ReadsL W a7 l ∧ (∀ y ∈ l, Fits y) ∧ ∀ y ∈ l, Kinds y by
        obtain ⟨l, hl, hfl, hkl⟩ := hl
        exact ⟨.mk k v t nm o l, a7, rfl, hl, .mk k v t nm o l hi hfl, .mk k v t nm o l hi0 hkl⟩
      clear hf h0 h1 h2 h3 h4
      rcases DataW.trod_slice Tryz.underlying28 h5 with ⟨e, _⟩ | ⟨a, len, cap, elems, rest, m', rfl, e, _, hb, hlc, _, hel, hat, _, _⟩
      · simp only [List.cons.injEq, and_true] at e
        subst e
        exact ⟨[], ReadsL.nil W none 0, (fun y hy => by cases hy), (fun y hy => by cases hy)⟩
      · simp only [List.cons.injEq, and_true] at e
        subst e
        obtain ⟨F, hF⟩ := choose_lt (α := Ex × Value) (n := len) (p := fun i x => (∀ j, j < 8 → W.cell? ((a.add (i * 8)).add j) = (cells8 x.1 x.2)[j]?) ∧ ReadsL W x.2 x.1.args ∧ Fits x.1 ∧ Kinds x.1) (fun i hi => by
          have hi' := hat i hi
          rw [List.getElem?_eq_getElem (by omega), cellsT_Expr] at hi'
          obtain ⟨cs', hc, ht⟩ := Option.bind_eq_some_iff.1 hi'
          obtain ⟨x, sv, rfl, hr, hx⟩ := ih m' (by omega) cs' _ ht
          obtain ⟨_, _, hg⟩ := World.cells?_some hc
          exact ⟨(x, sv), hg, hr, hx⟩)
        have hm : len = ((List.range len).map fun i => (F i).1).length := by simp
        refine ⟨(List.range len).map fun i => (F i).1, ?_, fun y hy => ?_, fun y hy => ?_⟩
        · conv => arg 2; rw [hm]
          refine .mk (some a) cap _ (fun i => (F i).2) (fun j x hx => ?_) (fun j x hx => ?_)
          · rw [List.getElem?_map] at hx
            obtain ⟨i, hi, rfl⟩ := Option.map_eq_some_iff.1 hx
            have hj : j < len := by have := (List.getElem?_eq_some_iff.1 hi).1; simpa using this
            have hij : i = j := by
              rw [List.getElem?_range hj] at hi
              exact (Option.some.inj hi).symm
            subst hij
            have h00 := (hF 0 (by omega)).1 0 (by omega)
            rw [show (a.add (0 * 8)).add 0 = a from rfl] at h00
            have ea := cell_spot (v := .int .i64 (F 0).1.k) h00
            refine ⟨a.block, a.off, by rw [← ea], cells8_at fun q hq => ?_⟩
            have hc := (hF i hj).1 q hq
            rw [ea, add_none, add_none] at hc
            exact hc
          · rw [List.getElem?_map] at hx
            obtain ⟨i, hi, rfl⟩ := Option.map_eq_some_iff.1 hx
            have hj : j < len := by have := (List.getElem?_eq_some_iff.1 hi).1; simpa using this
            have hij : i = j := by
              rw [List.getElem?_range hj] at hi
              exact (Option.some.inj hi).symm
            subst hij
            exact (hF i hj).2.1
        · obtain ⟨i, hi, rfl⟩ := List.mem_map.1 hy
          exact (hF i (by simpa using hi)).2.2.1
        · obtain ⟨i, hi, rfl⟩ := List.mem_map.1 hy
          exact (hF i (by simpa using hi)).2.2.2
/-- An argument of the type of expressions. -/
theorem expr_of_trod {b0 : Nat} {v : Value} {d : DataW H} {ps : List MemPlace} (hv : Value.okWide Tryz.prog W .any b0 30 v) (h : DataW.Trod enc Tryz.prog W base spare held 30 v d ps) : ∃ x, ReadsE W x v ∧ Fits x ∧ Kinds x := by
  obtain ⟨cs, rfl, hsz⟩ := okWide_struct Tryz.underlying30 hv
  obtain ⟨fuel, hf⟩ := h
  obtain ⟨x, sv, e, hr, hx⟩ := ex_of_trod fuel _ _ hf
  refine ⟨x, ⟨sv, ?_, hr⟩, hx⟩
  have e' : cs.toList = cells8 x sv := e
  rw [show cs = (cells8 x sv).toArray by rw [← e']]
  rfl
end
end Go.Proofs.YtepkfkfedmbmnaaGreatDoor
