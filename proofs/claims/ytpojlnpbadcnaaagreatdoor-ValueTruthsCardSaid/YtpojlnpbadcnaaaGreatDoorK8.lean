/- loupelaw01.ValueTruths returns true at every slice of truths, truth and value, and leaves its arguments as they were. Conditions: those of the given card alone (the listed package variables hold what the program's text lays). -/
import Derived.Test.YtpojlnpbadcnaaaGreatDoorRV
import Derived.Test.YtpojlnpbadcnaaaGreatDoorL8
import Derived.Test.YtpojlnpbadcnaaaGreatDoorTie
import Derived.Test.YtpojlnpbadcnaaaGreatDoorCards
import Derived.SevenTiedAt
namespace Go.Proofs.YtpojlnpbadcnaaaGreatDoor
open Go.ChangeShapes Go.WideShapes Go.ChangeAt Go.RowKit
set_option maxRecDepth 100000

theorem truthCells : Tryz.prog.cellsOf 39 = 1 := by kernel_rfl
theorem open_truths {H : Type} {enc : TypeId × Value → H} {W : World} {r : Reach} {b0 : Nat} {v : Value} {d : DataW H} {p : List MemPlace}
    (hv : Value.okWide Tryz.prog W r b0 56 v) (h : DataW.Trod enc Tryz.prog W 0 (fun _ => true) true 56 v d p) :
    ∃ (a : Option Addr) (len cap : Nat) (zs : List Int), v = .slice a len cap ∧ len = zs.length ∧ len ≤ maxLen ∧ Ints W.heap.size W (.slice a len cap) zs := by
  obtain ⟨a, len, cap, rfl⟩ := okWide_slice Tryz.underlying56 hv
  obtain ⟨fuel, hf⟩ := h
  rcases open_ints Tryz.underlying56 Tryz.underlying39 truthCells hf with ⟨hc, _⟩ | ⟨a', len', cap', zs, hc, _, hl, hm, hz, _, hcs, _⟩
  · simp [Value.cells] at hc
    obtain ⟨rfl, rfl, rfl⟩ := hc
    exact ⟨none, 0, 0, [], rfl, rfl, by omega, .inl ⟨rfl, rfl⟩⟩
  · simp [Value.cells] at hc
    obtain ⟨rfl, rfl, rfl⟩ := hc
    unfold Value.okWide at hv
    simp only [Tryz.underlying56] at hv
    unfold Cell.okWide at hv
    simp only [Tryz.underlying56] at hv
    unfold Cell.ok at hv
    simp only [Tryz.underlying56] at hv
    obtain ⟨_, _, _, hsp, row, cells, hsh, _⟩ := hv
    obtain ⟨b, off, spot⟩ := a'
    simp only at hsp
    subst hsp
    have hb : b < W.heap.size := by
      rcases Nat.lt_or_ge b W.heap.size with h' | h'
      · exact h'
      · simp [World.shape?, Array.getElem?_eq_none h'] at hsh
    simp only [if_true] at hz
    have htl : (zs.take len).length = len := by simp; omega
    refine ⟨some ⟨b, off, none⟩, len, cap, zs.take len, rfl, htl.symm, by omega, .inr ⟨b, off, cap, by rw [htl], hb, ?_⟩⟩
    intro j hj
    rw [htl] at hj
    have := hcs j (by omega)
    rw [show (⟨b, off, none⟩ : Addr).add j = ⟨b, off + j, none⟩ by simp [Addr.add] <;> omega] at this
    rw [this, List.getElem?_take, if_pos hj]
    rfl

theorem truths_lifted (os : Os) (started : os.Started) (H : Type) (enc : TypeId × Value → H) :
    ReturnsInHanded {} Tryz.checked os 8 .any (fun w args => (Rows.valueTruthsSpec.pre enc Tryz.prog Tryz.f8 [] false w args ∧ laidMetH Tryz.prog laid7 w) ∧ sizedMet enc Tryz.prog Tryz.f8 (OpenSpec.ofChange Rows.valueTruthsSpec) false w args)
      (Rows.valueTruthsSpec.post enc Tryz.prog Tryz.f8 false true false false) := by
  refine wrap (C := Tryz.checked) (X := fun w _ => laidMetH Tryz.prog laid7 w) (fun _ _ _ hh h => h.of_heap hh) own started (by kernel_rfl) Tryz.func8
    (ChangeSpec.witness_shaped (enc := enc) (C := Tryz.checked) (os := os) (X := fun w _ => laidMetH Tryz.prog laid7 w) false (World.laidAll Tryz.prog os laid7) #[.slice none 0 0, .int .i64 0, .agg #[.int .i64 0, .int .i64 0, .string ⟨#[]⟩]] 8 (World.laidAll_os _ _ _)
      (World.shaped_of_ZipB (by kernel_rfl) (by kernel_rfl)) (by kernel_rfl) (by kernel_rfl) (by kernel_rfl)
      (by rw [MakeChecks.laidMetH_plain _ _ _ (by kernel_rfl)]; exact laidMet_laidAll _ (by kernel_rfl) (by kernel_rfl))) ?_
  intro W base args ds gs before hval0 hW _ hL hsh
  have hval : ∀ (j : Nat) t v, Tryz.f8.params[j]? = some t → args[j]? = some v → Value.okWide Tryz.prog W .any base t v := hval0
  have hW' := hW
  obtain ⟨p, q, hA0, hV, hpq, _, _⟩ := hW
  have hA : DataW.TrodAll enc Tryz.prog W 0 (fun _ => true) true Tryz.f8.params.toList args.toList ds p := hA0
  rw [Tryz.params8] at hA hval
  obtain ⟨v0, v1, v2, d0, d1, d2, p0, p1, p2, rfl, rfl, rfl, h0, h1, h2⟩ := trodAll_three hA
  obtain ⟨rfl, rfl⟩ := trodVars_none hV
  obtain ⟨k, n, l, rfl, hk, hn, hl⟩ := open_value (hval 2 24 v2 rfl rfl) h2
  obtain ⟨t, rfl, rfl, rfl, wt⟩ := open_int Tryz.underlying39 (hval 1 39 v1 rfl rfl) h1
  obtain ⟨a, len, cap, zs, rfl, hz, hlm, hI⟩ := open_truths (hval 0 56 v0 rfl rfl) h0
  refine (truths_all a len cap zs hz hlm t k n l hl (bounds_i64 wt) hn hk W (glob_of hL hsh) hI).mono fun e W' ⟨he, hb⟩ => ?_
  subst he
  exact ⟨_, rfl, yes_post laidOut Tryz.underlying4 (by kernel_rfl) (by rw [Tryz.params8]; intro t ht; have h3 : t = 56 ∨ t = 39 ∨ t = 24 := (by simpa using ht); rcases h3 with rfl | rfl | rfl <;> exact ⟨by kernel_rfl, of_decide_eq_true (by kernel_rfl)⟩) rfl hW' rfl hb⟩

theorem truths_holds : Rows.ValueTruthsSaid :=
  OpenClaim.holds_of_wide 8 Tryz.f8 rfl rfl rfl rfl rfl rfl rfl ⟨rfl, rfl, rfl, rfl, rfl⟩ rfl rfl rfl rfl rfl (by kernel_rfl) Tryz.func8 (by kernel_rfl)
    (of_decide_eq_true (by kernel_rfl)) (by unfold Func.isWrapper; first | (rw [if_pos (by decide +kernel)]; kernel_rfl) | (rw [if_neg (by decide +kernel)]; exact ⟨rfl, rfl⟩))
    (fun os started H enc _ => truths_lifted os started H enc)

theorem truths_card : Rows.ValueTruthsCardSaid :=
  Claim7.holds_tied_plain_at .later [] [.data, .data, .data, .data, .sentinel, .sentinel, .pinned] true Rows.valueTruthsCard.stood.harness true truths_holds (fun _ h => by cases h) (by kernel_rfl) (fun _ h => by cases h) valueTruths_row_tie rfl ⟨rfl, rfl⟩ (by kernel_rfl) rfl
    (fun f fn hf hfn => by
      obtain rfl : f = 8 := Option.some.inj ((show Tryz.prog.funcNamed "loupe/loupelaw01.ValueTruths" = some 8 by kernel_rfl).symm.trans hf) |>.symm
      obtain rfl : fn = Tryz.f8 := (Option.some.inj (Tryz.func8.symm.trans hfn)).symm
      exact ⟨by kernel_rfl, fun j t ht => by
        rw [Tryz.params8] at ht
        have hm : t ∈ [56, 39, 24] := by simpa using Array.mem_of_getElem? ht
        have hall : ([56, 39, 24].all fun u => !Tryz.prog.wantsStandIn u) = true := by kernel_rfl
        exact (show Tryz.prog.wantsStandIn t = false by simpa using List.all_eq_true.1 hall t hm)⟩)
    (by kernel_rfl)
#print axioms truths_card
end Go.Proofs.YtpojlnpbadcnaaaGreatDoor
