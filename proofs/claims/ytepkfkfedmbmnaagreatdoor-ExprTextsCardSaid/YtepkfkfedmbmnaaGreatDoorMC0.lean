/- Moved out of another text: natAt natAt_of parts_past taken_drop -/
import Derived.Test.YtepkfkfedmbmnaaGreatDoorX1
import Derived.Test.YtepkfkfedmbmnaaGreatDoorMX
namespace Go.Proofs.YtepkfkfedmbmnaaGreatDoor
open Go.RowKit
set_option maxRecDepth 100000

theorem taken_drop {ts : List Tok} {k : Nat} {l : List Int} {i : Nat} (hi : i < l.length) : takenK ts k (l.drop i) = match takeK ts k [opName l[i]] with
    | some k' => some (l[i], k')
    | none => takenK ts k (l.drop (i + 1)) := by
  rw [List.drop_eq_getElem_cons hi]
  rfl
def natAt (w : World) (b : Nat) : Nat := match w.cell? ⟨b, 1, none⟩ with
  | some (.int _ i) => i.toNat
  | _ => 0
theorem natAt_of {w : World} {b : Nat} {v : Value} {k : Nat} {t : TypeId} (h : w.heap[b]? = some (.cells #[v, .int .i64 (k : Int)] t (0, 0))) : natAt w b = k := by
  unfold natAt
  rw [(cells2 h).2.1]
  simp
theorem parts_past {ts : List Tok} (hT : TokOK ts) {f n k d : Nat} (hk : k < ts.length) {k' : Nat} {x : Ex} (h : runR ts f (.rd n k d) = .good k' x) : k < k' := by
  have hm := run_parts hT f (.rd n k d) hk
  rw [h] at hm
  have h1 := parts_pos x
  have h2 := hm.2
  simp only [Job.at, Job.made] at h2
  omega
theorem FrR.set8' {W A : World} {g n cap k b : Nat} (h : FrR W A g n cap k) (hb : W.heap.size + 1 + 1 < b) (y0 y1 y2 y3 y4 y5 y6 y7 : Value) : FrR W (set8 A b y0 y1 y2 y3 y4 y5 y6 y7) g n cap k :=
  ⟨bl_set8 h.bl (by omega) _ _ _ _ _ _ _ _, (set8_other _ (by omega) _ _ _ _ _ _ _ _).trans h.s, (set8_other _ (by omega) _ _ _ _ _ _ _ _).trans h.r, (set8_other _ (by omega) _ _ _ _ _ _ _ _).trans h.x⟩
theorem ReadsP.set8' {p : Nat → Prop} {A : World} {b : Nat} {sv : Value} {l : List Ex} (h : ReadsP p A sv l) (hb : ∀ i, p i → i ≠ b) (y0 y1 y2 y3 y4 y5 y6 y7 : Value) : ReadsP p (set8 A b y0 y1 y2 y3 y4 y5 y6 y7) sv l := h.keep (fun _ h => h) fun i hi _ => set8_other _ (hb i hi) _ _ _ _ _ _ _ _
end Go.Proofs.YtepkfkfedmbmnaaGreatDoor
