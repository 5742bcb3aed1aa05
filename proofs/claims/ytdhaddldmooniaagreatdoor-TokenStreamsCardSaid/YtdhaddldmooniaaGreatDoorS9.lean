/- token.New. -/
import Derived.Test.YtdhaddldmooniaaGreatDoorS8
import Derived.Test.YtdhaddldmooniaaGreatDoorS6
namespace Go.Proofs.YtdhaddldmooniaaGreatDoor
open Go.RowKit
set_option maxRecDepth 100000

theorem few_toks {l : List UInt8} {ts : List Tok} (h : toksO l = some ts) : ts.length ≤ l.length := (blanked_length (parse := parseO) l.length l.length l (Nat.le_refl _) ts h).2
def NewPost (W : World) (l : List UInt8) (ts : List Tok) (e : Ending) (w' : World) : Prop :=
  ∃ bs g cap, e = .returned (.tuple #[.pointer (some ⟨bs, 0, none⟩), .int .i64 0]) ∧ Bl W w' ∧ W.heap.size ≤ bs ∧ W.heap.size ≤ g ∧ Strm w' bs g cap (ts ++ [endTok l.length]) 0
set_option maxHeartbeats 1000000 in
theorem tNew_good (l : List UInt8) (hl : l.length ≤ 4000) (ts : List Tok) (h : toksO l = some ts) (W : World) (hG : Glob W) : Calls Tryz.prog 9 #[S l] W (NewPost W l ts) := by
  have hf := few_toks h
  have H := Lib.hid h
  clear h
  go_enter Tryz.func9, Tryz.ntmps9
  go_wp2_with fail
  (with_reducible refine (All_good l hl ts H.out W hG).mono ?_)
  rintro e w1 ⟨g, cap, rfl, hb, hg, ho⟩
  have HR : Hid (Row w1 g (ts ++ [endTok l.length])) := got_at ho
  have hgl : g < w1.heap.size := (ho.lt g rfl).2
  clear ho
  go_wp2
  go_ret2
  refine ⟨_, g, cap, rfl, hb.alloc _, hb.size, hg, ⟨?_, HR.out.bl ((Bl.refl w1).alloc _), by simp, by simp; omega, by omega⟩⟩
  rw [heap_new]
  simp
theorem tNew_bad (l : List UInt8) (hl : l.length ≤ 9223372036854775807) (h : allErr l ≠ 0) (W : World) (hG : Glob W) : Calls Tryz.prog 9 #[S l] W fun e w' => e = .returned (.tuple #[.pointer none, .int .i64 (allErr l)]) ∧ Bl W w' := by
  have hne : (allErr l != 0) = true := by simpa using h
  go_enter Tryz.func9, Tryz.ntmps9
  go_wp2_with fail
  (with_reducible refine (tAll_any l hl W hG).mono ?_)
  rintro e w1 ⟨v, rfl, hb, hv, -⟩
  obtain rfl := hv h
  clear hv
  generalize hx : allErr l = x at *
  have HX := Lib.hid hx
  clear hx
  go_wp2
  go_ret2
  exact ⟨by rw [HX.out]; rfl, hb⟩

end Go.Proofs.YtdhaddldmooniaaGreatDoor
