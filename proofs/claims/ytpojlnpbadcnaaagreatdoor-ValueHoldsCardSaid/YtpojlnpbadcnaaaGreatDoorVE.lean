/- Two values compared by ==. -/
import Derived.Test.YtpojlnpbadcnaaaGreatDoorV1
import Derived.Laws.StructEq
namespace Go.Proofs.YtpojlnpbadcnaaaGreatDoor
open Go.RowKit
set_option maxRecDepth 100000

theorem eqV (k n : Int) (l : List UInt8) (k' n' : Int) (l' : List UInt8) (W : World) : (binOp .eql 24 (V k n l) (V k' n' l')).run Tryz.prog W = .ok (.bool (decide (k = k' ∧ n = n' ∧ l = l'))) W := by
  rw [run_eql_struct]
  by_cases hk : k = k' <;> by_cases hn : n = n' <;> by_cases hl : l = l' <;> simp [go_sem, hk, hn, hl]
end Go.Proofs.YtpojlnpbadcnaaaGreatDoor
