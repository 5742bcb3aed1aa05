/- loupelaw15.TokenStreams returns true at every text and every list of calls, and leaves its arguments as they were. Conditions: those of the given card alone (the listed package variables hold what the program's text lays). -/
import Derived.Test.YtdhaddldmooniaaGreatDoorRW
import Derived.Test.YtdhaddldmooniaaGreatDoorLS
import Derived.Test.YtdhaddldmooniaaGreatDoorOS
import Derived.Test.YtdhaddldmooniaaGreatDoorTie
import Derived.Test.YtdhaddldmooniaaGreatDoorCards
import Derived.SevenTiedAt
import Derived.OpenShut
namespace Go.Proofs.YtdhaddldmooniaaGreatDoor
open Go.ChangeShapes Go.WideShapes Go.ChangeAt Go.RowKit Go.Deep
open Go.ChangeMaps (open_string)
set_option maxRecDepth 100000

section
variable {H : Type} {enc : TypeId × Value → H} {W : World} {base : Nat} {spare : Nat → Bool} {held : Bool}
theorem acts_of_trod {n : Nat} {v : Value} {y : DataW H × List MemPlace} (h : DataW.trod enc Tryz.prog W base spare held n 37 [v] = some y) : ∃ l : List ActT, Acts W v l ∧ l.length ≤ maxLen := by
  rcases open_slice_fields Tryz.underlying37 Tryz.underlying47 (by kernel_rfl) (by kernel_rfl) h with ⟨hcs, _⟩ | ⟨a, len, cap, m, hcs, hl, hm, hlm, hf⟩
  · simp only [List.cons.injEq, and_true] at hcs
    exact ⟨[], ⟨none, 0, hcs, fun j hj => by simp at hj⟩, by simp⟩
  · simp only [List.cons.injEq, and_true] at hcs
    obtain ⟨F, hF⟩ := choose_lt (α := ActT × Value) (n := len) (p := fun i x => W.cell? (a.add (i * 3 + 0)) = some (.int .i64 x.1.1) ∧ W.cell? (a.add (i * 3 + 1)) = some (.int .i64 x.1.2.1) ∧ W.cell? (a.add (i * 3 + 2)) = some x.2 ∧ Strs W x.2 x.1.2.2) (fun i hi => by
      obtain ⟨n', hg⟩ := hf i (by omega)
      obtain ⟨v0, y0, c0, t0⟩ := hg 0 _ rfl
      obtain ⟨v1, y1, c1, t1⟩ := hg 1 _ rfl
      obtain ⟨v2, y2, c2, t2⟩ := hg 2 _ rfl
      obtain ⟨i0, e0, _, _⟩ := DataW.trod_int Tryz.underlying3 t0
      obtain ⟨i1, e1, _, _⟩ := DataW.trod_int Tryz.underlying3 t1
      simp only [List.cons.injEq, and_true] at e0 e1
      subst e0
      subst e1
      obtain ⟨xs, hx⟩ := strs_of_trod t2
      exact ⟨((i0, i1, xs), v2), c0, c1, c2, hx⟩)
    refine ⟨(List.range len).map fun i => (F i).1, ⟨some a, cap, by simpa using hcs, fun j hj => ?_⟩, by simp; omega⟩
    have hj' : j < len := by simpa using hj
    have h0 := (hF 0 (by omega)).1
    rw [show a.add (0 * 3 + 0) = a from rfl] at h0
    have ea := cell_spot h0
    obtain ⟨c0, c1, c2, hx⟩ := hF j hj'
    rw [ea, add_none] at c0 c1 c2
    refine ⟨a.block, a.off, (F j).2, by rw [← ea], ?_, ?_, ?_, ?_⟩
    · simpa using c0
    · simpa [Nat.add_assoc] using c1
    · simpa [Nat.add_assoc] using c2
    · simpa using hx
end

theorem streams_all (s : List UInt8) (sv : Value) (l : List ActT) (hs : s.length ≤ 9223372036854775807) (hn : l.length ≤ 9223372036854775807) (w : World) (hA : Acts w sv l) (hG : Glob w) : Calls Tryz.prog 4 #[S s, sv] w (Yes w) := by
  by_cases hb : 1000 < s.length ∨ 40 < l.length
  · obtain ⟨a, cap, rfl, _⟩ := hA
    exact streams_big s a l.length cap hs hn hb w hG
  · cases ht : toksO s with
    | none =>
      obtain ⟨a, cap, rfl, _⟩ := hA
      exact streams_bad s a l.length cap (by omega) (by omega) ht w hG
    | some ts => exact streams_good s sv l (by omega) (by omega) _ ⟨ts, ht, rfl⟩ w hA hG

theorem tstreams_lifted (os : Os) (started : os.Started) (H : Type) (enc : TypeId × Value → H) :
    ReturnsInHanded {} Tryz.checked os 4 .any (fun w args => (Rows.tokenStreamsSpec.pre enc Tryz.prog Tryz.f4 [] false w args ∧ laidMetH Tryz.prog laid7 w) ∧ sizedMet enc Tryz.prog Tryz.f4 (OpenSpec.ofChange Rows.tokenStreamsSpec) false w args)
      (Rows.tokenStreamsSpec.post enc Tryz.prog Tryz.f4 false true false false) := by
  refine wrap (C := Tryz.checked) (X := fun w _ => laidMetH Tryz.prog laid7 w) (fun _ _ _ hh h => h.of_heap hh) own started (by kernel_rfl) Tryz.func4
    (ChangeSpec.witness_shaped (enc := enc) (C := Tryz.checked) (os := os) (X := fun w _ => laidMetH Tryz.prog laid7 w) false (World.laidAll Tryz.prog os laid7) #[.string ⟨#[]⟩, .slice none 0 0] 8 (World.laidAll_os _ _ _)
      (World.shaped_of_ZipB (by kernel_rfl) (by kernel_rfl)) (by kernel_rfl) (by kernel_rfl) (by kernel_rfl)
      (by rw [MakeChecks.laidMetH_plain _ _ _ (by kernel_rfl)]; exact laidMet_laidAll _ (by kernel_rfl) (by kernel_rfl))) ?_
  intro W base args ds gs before hval0 hW _ hL hsh
  have hval : ∀ (j : Nat) t v, Tryz.f4.params[j]? = some t → args[j]? = some v → Value.okWide Tryz.prog W .any base t v := hval0
  have hW' := hW
  obtain ⟨p, q, hA0, hV, hpq, _, _⟩ := hW
  have hA : DataW.TrodAll enc Tryz.prog W 0 (fun _ => true) true Tryz.f4.params.toList args.toList ds p := hA0
  rw [Tryz.params4] at hA hval
  obtain ⟨v0, v1, d0, d1, p0, p1, rfl, rfl, rfl, h0, h1⟩ := trodAll_two hA
  obtain ⟨rfl, rfl⟩ := trodVars_none hV
  obtain ⟨s, rfl, rfl, rfl, hs⟩ := open_string Tryz.underlying9 (hval 0 9 v0 rfl rfl) h0
  obtain ⟨a, len, cap, rfl⟩ := okWide_slice Tryz.underlying37 (hval 1 37 v1 rfl rfl)
  obtain ⟨fuel, hf⟩ := h1
  obtain ⟨l, hAc, hlm⟩ := acts_of_trod (by simpa [Value.cells] using hf)
  obtain ⟨⟨sl⟩⟩ := s
  have hsl : sl.length ≤ 9223372036854775807 := by
    rw [size_of_list] at hs; unfold maxLen at hs; omega
  refine (streams_all sl _ l hsl (by unfold maxLen at hlm; omega) W hAc (glob_of hL hsh)).mono fun e W' ⟨he, hb⟩ => ?_
  subst he
  exact ⟨_, rfl, yes_post laidOut Tryz.underlying4 (by kernel_rfl) (by rw [Tryz.params4]; intro t ht; rcases (show t = 9 ∨ t = 37 by simpa using ht) with rfl | rfl <;> exact ⟨by kernel_rfl, of_decide_eq_true (by kernel_rfl)⟩) rfl hW' rfl hb⟩

theorem tstreams_holds : Rows.TokenStreamsSaid :=
  OpenClaim.holds_of_wide 4 Tryz.f4 rfl rfl rfl rfl rfl rfl rfl ⟨rfl, rfl, rfl, rfl, rfl⟩ rfl rfl rfl rfl rfl (by kernel_rfl) Tryz.func4 (by kernel_rfl)
    (of_decide_eq_true (by kernel_rfl)) (by unfold Func.isWrapper; first | (rw [if_pos (by decide +kernel)]; kernel_rfl) | (rw [if_neg (by decide +kernel)]; exact ⟨rfl, rfl⟩))
    (fun os started H enc _ => tstreams_lifted os started H enc)

theorem tstreams_card : Rows.TokenStreamsCardSaid :=
  Claim7.holds_tied_plain_at .later [] [.data, .data, .data, .data, .sentinel, .sentinel, .pinned] true Rows.tokenStreamsCard.stood.harness true tstreams_holds (fun _ h => by cases h) (by kernel_rfl) (fun _ h => by cases h) tokenStreams_row_tie rfl ⟨rfl, rfl⟩ (by kernel_rfl) rfl
    (fun f fn hf hfn => by
      obtain rfl : f = 4 := Option.some.inj ((show Tryz.prog.funcNamed "loupe/loupelaw15.TokenStreams" = some 4 by kernel_rfl).symm.trans hf) |>.symm
      obtain rfl : fn = Tryz.f4 := (Option.some.inj (Tryz.func4.symm.trans hfn)).symm
      exact ⟨by kernel_rfl, fun j t ht => by
        rw [Tryz.params4] at ht
        have hm : t ∈ [9, 37] := by simpa using Array.mem_of_getElem? ht
        have hall : ([9, 37].all fun u => !Tryz.prog.wantsStandIn u) = true := by kernel_rfl
        exact (show Tryz.prog.wantsStandIn t = false by simpa using List.all_eq_true.1 hall t hm)⟩)
    (by kernel_rfl)
#print axioms tstreams_card
end Go.Proofs.YtdhaddldmooniaaGreatDoor
