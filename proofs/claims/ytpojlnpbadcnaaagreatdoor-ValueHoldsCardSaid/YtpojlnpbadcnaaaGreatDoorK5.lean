/- loupelaw01.ValueHolds returns true at every three values and two truths, and leaves its arguments as they were. Conditions: those of the given card alone (the listed package variables hold what the program's text lays). -/
import Derived.Test.YtpojlnpbadcnaaaGreatDoorRV
import Derived.Test.YtpojlnpbadcnaaaGreatDoorL5
import Derived.Test.YtpojlnpbadcnaaaGreatDoorTie
import Derived.Test.YtpojlnpbadcnaaaGreatDoorCards
import Derived.SevenTiedAt
import Derived.OpenShut
import Derived.Deep.Strs
namespace Go.Proofs.YtpojlnpbadcnaaaGreatDoor
open Go.ChangeShapes Go.WideShapes Go.ChangeAt Go.RowKit
set_option maxRecDepth 100000

theorem okWide_arr {P : Program} {w : World} {r : Reach} {base : Nat} {t : TypeId} {v : Value} {n : Nat} {e : TypeId} (ht : P.underlying t = some (.array n e)) (h : Value.okWide P w r base t v) : ∃ cs, v = .agg cs ∧ cs.size = P.cellsOf t := by
  simp only [Value.okWide, ht] at h
  obtain ⟨cs, h1, h2, _⟩ := h
  exact ⟨cs, h1, h2⟩
theorem truthOne : Tryz.prog.cellsOf 39 = 1 := by kernel_rfl
theorem arr3Cells : Tryz.prog.cellsOf 38 = 9 := by kernel_rfl
theorem arr2Cells : Tryz.prog.cellsOf 40 = 2 := by kernel_rfl
theorem kindOne : Tryz.prog.cellsOf 22 = 1 := by kernel_rfl
theorem int64One : Tryz.prog.cellsOf 2 = 1 := by kernel_rfl
theorem stringOne : Tryz.prog.cellsOf 9 = 1 := by kernel_rfl
theorem list9 {l : List Value} (h : l.length = 9) : ∃ a b c d e f g i j, l = [a, b, c, d, e, f, g, i, j] := by
  match l, h with
  | [a, b, c, d, e, f, g, i, j], _ => exact ⟨a, b, c, d, e, f, g, i, j, rfl⟩
theorem list2 {l : List Value} (h : l.length = 2) : ∃ a b, l = [a, b] := by
  match l, h with
  | [a, b], _ => exact ⟨a, b, rfl⟩
theorem three_of {H : Type} {enc : TypeId × Value → H} {W : World} {b1 : Nat} {sp : Nat → Bool} {held : Bool} {m : Nat} {c0 c1 c2 : Value} {y : DataW H × List MemPlace}
    (h : DataW.trod enc Tryz.prog W b1 sp held m 24 [c0, c1, c2] = some y) : ∃ (k n : Int) (l : List UInt8), c0 = .int .i64 k ∧ c1 = .int .i64 n ∧ c2 = .string ⟨l.toArray⟩ ∧ I64 n := by
  obtain ⟨y0, y1, y2, f, _, _, h0, h1, h2⟩ := Go.Deep.trod_struct3 Tryz.underlying24 h
  simp only [kindOne, int64One, stringOne, List.drop_zero, List.drop_succ_cons, List.take_succ_cons, List.take_zero] at h0 h1 h2
  obtain ⟨k, e0, _, w0⟩ := DataW.trod_int Tryz.underlying22 h0
  obtain ⟨n, e1, _, w1⟩ := DataW.trod_int Tryz.underlying2 h1
  obtain ⟨s, e2, _, w2⟩ := DataW.trod_string Tryz.underlying9 h2
  simp only [List.cons.injEq, and_true] at e0 e1 e2
  obtain ⟨⟨l⟩⟩ := s
  exact ⟨k, n, l, e0, e1, e2, bounds_i64 w1⟩
theorem open_three {H : Type} {enc : TypeId × Value → H} {W : World} {r : Reach} {b0 b1 : Nat} {sp : Nat → Bool} {held : Bool} {v : Value} {d : DataW H} {p : List MemPlace}
    (hv : Value.okWide Tryz.prog W r b0 38 v) (h : DataW.Trod enc Tryz.prog W b1 sp held 38 v d p) :
    ∃ (k n : Int) (l : List UInt8) (k' n' : Int) (l' : List UInt8) (k2 n2 : Int) (l2 : List UInt8), v = A9 k n l k' n' l' k2 n2 l2 ∧ I64 n ∧ I64 n' := by
  obtain ⟨⟨cs⟩, rfl, hsz⟩ := okWide_arr Tryz.underlying38 hv
  rw [arr3Cells] at hsz
  obtain ⟨a0, a1, a2, a3, a4, a5, a6, a7, a8, rfl⟩ := list9 (by simpa using hsz)
  obtain ⟨fuel, hf⟩ := h
  obtain ⟨xs, m, _, _, _, hlen, hx⟩ := DataW.trod_array Tryz.underlying38 hf
  match xs, hlen with
  | [y0, y1, y2], _ =>
    have g0 := hx 0 (by omega)
    have g1 := hx 1 (by omega)
    have g2 := hx 2 (by omega)
    simp [valueCells, Value.cells] at g0 g1 g2
    obtain ⟨k, n, l, rfl, rfl, rfl, hn⟩ := three_of g0
    obtain ⟨k', n', l', rfl, rfl, rfl, hn'⟩ := three_of g1
    obtain ⟨k2, n2, l2, rfl, rfl, rfl, _⟩ := three_of g2
    exact ⟨k, n, l, k', n', l', k2, n2, l2, rfl, hn, hn'⟩
theorem open_pair {H : Type} {enc : TypeId × Value → H} {W : World} {r : Reach} {b0 b1 : Nat} {sp : Nat → Bool} {held : Bool} {v : Value} {d : DataW H} {p : List MemPlace}
    (hv : Value.okWide Tryz.prog W r b0 40 v) (h : DataW.Trod enc Tryz.prog W b1 sp held 40 v d p) : ∃ (x y : Int), v = A2 x y := by
  obtain ⟨⟨cs⟩, rfl, hsz⟩ := okWide_arr Tryz.underlying40 hv
  rw [arr2Cells] at hsz
  obtain ⟨a0, a1, rfl⟩ := list2 (by simpa using hsz)
  obtain ⟨fuel, hf⟩ := h
  obtain ⟨xs, m, _, _, _, hlen, hx⟩ := DataW.trod_array Tryz.underlying40 hf
  match xs, hlen with
  | [y0, y1], _ =>
    have g0 := hx 0 (by omega)
    have g1 := hx 1 (by omega)
    simp [truthOne, Value.cells] at g0 g1
    obtain ⟨x, e0, _, _⟩ := DataW.trod_int Tryz.underlying39 g0
    obtain ⟨y, e1, _, _⟩ := DataW.trod_int Tryz.underlying39 g1
    simp only [List.cons.injEq, and_true] at e0 e1
    subst e0 e1
    exact ⟨x, y, rfl⟩

theorem holds_lifted (os : Os) (started : os.Started) (H : Type) (enc : TypeId × Value → H) :
    ReturnsInHanded {} Tryz.checked os 5 .any (fun w args => (Rows.valueHoldsSpec.pre enc Tryz.prog Tryz.f5 [] false w args ∧ laidMetH Tryz.prog laid7 w) ∧ sizedMet enc Tryz.prog Tryz.f5 (OpenSpec.ofChange Rows.valueHoldsSpec) false w args)
      (Rows.valueHoldsSpec.post enc Tryz.prog Tryz.f5 false true false false) := by
  refine wrap (C := Tryz.checked) (X := fun w _ => laidMetH Tryz.prog laid7 w) (fun _ _ _ hh h => h.of_heap hh) own started (by kernel_rfl) Tryz.func5
    (ChangeSpec.witness_shaped (enc := enc) (C := Tryz.checked) (os := os) (X := fun w _ => laidMetH Tryz.prog laid7 w) false (World.laidAll Tryz.prog os laid7) #[.agg #[.int .i64 0, .int .i64 0, .string ⟨#[]⟩, .int .i64 0, .int .i64 0, .string ⟨#[]⟩, .int .i64 0, .int .i64 0, .string ⟨#[]⟩], .agg #[.int .i64 0, .int .i64 0]] 8 (World.laidAll_os _ _ _)
      (World.shaped_of_ZipB (by kernel_rfl) (by kernel_rfl)) (by kernel_rfl) (by kernel_rfl) (by kernel_rfl)
      (by rw [MakeChecks.laidMetH_plain _ _ _ (by kernel_rfl)]; exact laidMet_laidAll _ (by kernel_rfl) (by kernel_rfl))) ?_
  intro W base args ds gs before hval0 hW _ hL hsh
  have hval : ∀ (j : Nat) t v, Tryz.f5.params[j]? = some t → args[j]? = some v → Value.okWide Tryz.prog W .any base t v := hval0
  have hW' := hW
  obtain ⟨p, q, hA0, hV, hpq, _, _⟩ := hW
  have hA : DataW.TrodAll enc Tryz.prog W 0 (fun _ => true) true Tryz.f5.params.toList args.toList ds p := hA0
  rw [Tryz.params5] at hA hval
  obtain ⟨v0, v1, d0, d1, p0, p1, rfl, rfl, rfl, h0, h1⟩ := trodAll_two hA
  obtain ⟨rfl, rfl⟩ := trodVars_none hV
  obtain ⟨k, n, l, k', n', l', k2, n2, l2, rfl, hn, hn'⟩ := open_three (hval 0 38 v0 rfl rfl) h0
  obtain ⟨x, y, rfl⟩ := open_pair (hval 1 40 v1 rfl rfl) h1
  refine (holds_any k n l k' n' l' k2 n2 l2 x y hn hn' W (glob_of hL hsh)).mono fun e W' ⟨he, hb⟩ => ?_
  subst he
  exact ⟨_, rfl, yes_post laidOut Tryz.underlying4 (by kernel_rfl) (by rw [Tryz.params5]; intro t ht; have h3 : t = 38 ∨ t = 40 := (by simpa using ht); rcases h3 with rfl | rfl <;> exact ⟨by kernel_rfl, of_decide_eq_true (by kernel_rfl)⟩) rfl hW' rfl hb⟩

theorem holds_holds : Rows.ValueHoldsSaid :=
  OpenClaim.holds_of_wide 5 Tryz.f5 rfl rfl rfl rfl rfl rfl rfl ⟨rfl, rfl, rfl, rfl, rfl⟩ rfl rfl rfl rfl rfl (by kernel_rfl) Tryz.func5 (by kernel_rfl)
    (of_decide_eq_true (by kernel_rfl)) (by unfold Func.isWrapper; first | (rw [if_pos (by decide +kernel)]; kernel_rfl) | (rw [if_neg (by decide +kernel)]; exact ⟨rfl, rfl⟩))
    (fun os started H enc _ => holds_lifted os started H enc)

theorem holds_card : Rows.ValueHoldsCardSaid :=
  Claim7.holds_tied_plain_at .later [] [.data, .data, .data, .data, .sentinel, .sentinel, .pinned] true Rows.valueHoldsCard.stood.harness true holds_holds (fun _ h => by cases h) (by kernel_rfl) (fun _ h => by cases h) valueHolds_row_tie rfl ⟨rfl, rfl⟩ (by kernel_rfl) rfl
    (fun f fn hf hfn => by
      obtain rfl : f = 5 := Option.some.inj ((show Tryz.prog.funcNamed "loupe/loupelaw01.ValueHolds" = some 5 by kernel_rfl).symm.trans hf) |>.symm
      obtain rfl : fn = Tryz.f5 := (Option.some.inj (Tryz.func5.symm.trans hfn)).symm
      exact ⟨by kernel_rfl, fun j t ht => by
        rw [Tryz.params5] at ht
        have hm : t ∈ [38, 40] := by simpa using Array.mem_of_getElem? ht
        have hall : ([38, 40].all fun u => !Tryz.prog.wantsStandIn u) = true := by kernel_rfl
        exact (show Tryz.prog.wantsStandIn t = false by simpa using List.all_eq_true.1 hall t hm)⟩)
    (by kernel_rfl)
#print axioms holds_card
end Go.Proofs.YtpojlnpbadcnaaaGreatDoor
