/- Arguments opened: a value, a truth. -/
import Derived.Test.YtpojlnpbadcnaaaGreatDoorRW
import Derived.Lib.SmallJoins
namespace Go.Proofs.YtpojlnpbadcnaaaGreatDoor
open Go.ChangeShapes Go.WideShapes Go.ChangeAt Go.RowKit Go.Deep Go.WideElems Go.Joins
set_option maxRecDepth 100000

theorem valueOne : (match Tryz.prog.underlying 24 with | some (.struct fs) => oneCellFields Tryz.prog fs | _ => false) = true := by kernel_rfl
theorem valueCells : Tryz.prog.cellsOf 24 = 3 := by kernel_rfl

theorem open_value {H : Type} {enc : TypeId × Value → H} {W : World} {r : Reach} {b0 b1 : Nat} {sp : Nat → Bool} {held : Bool} {v : Value} {d : DataW H} {p : List MemPlace}
    (hv : Value.okWide Tryz.prog W r b0 24 v) (h : DataW.Trod enc Tryz.prog W b1 sp held 24 v d p) :
    ∃ (k n : Int) (l : List UInt8), v = V k n l ∧ (-9223372036854775808 ≤ k ∧ k ≤ 9223372036854775807) ∧ (-9223372036854775808 ≤ n ∧ n ≤ 9223372036854775807) ∧ l.length ≤ maxLen := by
  have ho := valueOne
  rw [Tryz.underlying24] at ho
  obtain ⟨v0, v1, v2, y0, y1, y2, m, rfl, _, _, h0, h1, h2⟩ := Joins.open_agg3 Tryz.underlying24 ho valueCells hv h
  obtain ⟨k, e0, _, w0⟩ := DataW.trod_int Tryz.underlying22 h0
  obtain ⟨n, e1, _, w1⟩ := DataW.trod_int Tryz.underlying2 h1
  obtain ⟨s, e2, _, w2⟩ := DataW.trod_string Tryz.underlying9 h2
  simp only [List.cons.injEq, and_true] at e0 e1 e2
  subst e0 e1 e2
  obtain ⟨⟨l⟩⟩ := s
  exact ⟨k, n, l, rfl, bounds_i64 w0, bounds_i64 w1, by rw [← size_of_list]; exact w2⟩

end Go.Proofs.YtpojlnpbadcnaaaGreatDoor
