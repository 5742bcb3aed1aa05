/- TokenStreams: the walk. -/
import Derived.Test.YtdhaddldmooniaaGreatDoorS9
import Derived.Test.YtdhaddldmooniaaGreatDoorS4
import Derived.Test.YtdhaddldmooniaaGreatDoorMW
import Derived.Deep.CutRange
import Derived.Deep.CutBlock
namespace Go.Proofs.YtdhaddldmooniaaGreatDoor
open Go.RowKit
set_option maxRecDepth 100000

/-- An act: what, at, words. -/
abbrev ActT : Type := Int × Int × List (List UInt8)
/-- The slice value sv holds these acts. -/
def Acts (W : World) (sv : Value) (l : List ActT) : Prop :=
  ∃ a cap, sv = .slice a l.length cap ∧ ∀ j, (h : j < l.length) → ∃ b off s, a = some ⟨b, off, none⟩ ∧ W.cell? ⟨b, off + j * 3, none⟩ = some (.int .i64 l[j].1) ∧ W.cell? ⟨b, off + j * 3 + 1, none⟩ = some (.int .i64 l[j].2.1) ∧
    W.cell? ⟨b, off + j * 3 + 2, none⟩ = some s ∧ Strs W s l[j].2.2
theorem Acts.bl {W W' : World} (hb : Bl W W') {sv : Value} {l : List ActT} (h : Acts W sv l) : Acts W' sv l := by
  obtain ⟨a, cap, e, hc⟩ := h
  refine ⟨a, cap, e, fun j hj => ?_⟩
  obtain ⟨b, off, s, e2, c0, c1, c2, hs⟩ := hc j hj
  exact ⟨b, off, s, e2, hb.cell c0, hb.cell c1, hb.cell c2, hs.bl hb⟩

set_option maxHeartbeats 1000000 in
theorem streams_big (s : List UInt8) (a : Option Addr) (n cap : Nat) (hs : s.length ≤ 9223372036854775807) (hn : n ≤ 9223372036854775807) (h : 1000 < s.length ∨ 40 < n) (w : World) (hG : Glob w) : Calls Tryz.prog 4 #[S s, .slice a n cap] w (Yes w) := by
  by_cases h1 : 1000 < s.length
  · have d0 : decide (1000 < (s.length : Int)) = true := by simp; omega
    go_enter Tryz.func4, Tryz.ntmps4
    go_wp2_with (first | (go_at_call 5; (with_reducible refine (works15_any _ hG).mono ?_); rintro e w3 ⟨rfl, hb3⟩))
    go_ret
    exact ⟨rfl, hb3⟩
  · have d0 : decide (1000 < (s.length : Int)) = false := by simp; omega
    have d1 : decide (40 < (n : Int)) = true := by simp; omega
    go_enter Tryz.func4, Tryz.ntmps4
    go_wp2_with (first | (go_at_call 5; (with_reducible refine (works15_any _ hG).mono ?_); rintro e w3 ⟨rfl, hb3⟩))
    go_ret
    exact ⟨rfl, hb3⟩
theorem rAll_bad (l : List UInt8) (hl : l.length ≤ 4000) (h : allErr l = 250) (w : World) : Calls Tryz.prog 10 #[S l] w fun e w' => ∃ v, e = .returned (.tuple #[v, .int .i64 250]) ∧ Bl w w' :=
  (rAll_any l hl w).mono fun e w' ⟨v, he, hb, _⟩ => ⟨v, by rw [he, h], hb⟩
theorem rAll_good (l : List UInt8) (hl : l.length ≤ 4000) (ts : List Tok) (h : toksO l = some ts) (w : World) : Calls Tryz.prog 10 #[S l] w (Got w ts l) := by
  have h0 : allErr l = 0 := by unfold allErr; rw [if_neg (by omega), h, if_neg (by simp)]
  refine (rAll_any l hl w).mono ?_
  rintro e w' ⟨v, he, hb, ho⟩
  have ho' := ho ts h0 h
  obtain ⟨g, cap, rfl⟩ := own_slice ho'
  exact ⟨g, cap, by rw [he, h0], hb, (ho'.lt g rfl).1, ho'⟩

set_option maxHeartbeats 1000000 in
theorem streams_bad (s : List UInt8) (a : Option Addr) (n cap : Nat) (hs : s.length ≤ 1000) (hn : n ≤ 40) (h : toksO s = none) (w : World) (hG : Glob w) : Calls Tryz.prog 4 #[S s, .slice a n cap] w (Yes w) := by
  have h250 : allErr s = 250 := by unfold allErr; rw [if_neg (by omega), if_pos h]
  have H2 := Lib.hid h250
  clear h h250
  have d0 : decide (1000 < (s.length : Int)) = false := by simp; omega
  have d1 : decide (40 < (n : Int)) = false := by simp; omega
  go_enter Tryz.func4, Tryz.ntmps4
  go_wp2_with fail
  (with_reducible refine (tNew_bad s (by omega) (by rw [H2.out]; decide) _ hG).mono ?_)
  rintro e w1 ⟨rfl, hb1⟩
  rw [H2.out]
  go_wp2_with fail
  (with_reducible refine (rAll_bad s (by omega) H2.out _).mono ?_)
  rintro e w2 ⟨v, rfl, hb2⟩
  have hB := hb1.call hb2
  have hG2 := hG.bl hB
  go_wp2_with (first
    | (go_at_call 7; (with_reducible refine (num15_any _ _).mono ?_); rintro e w' ⟨rfl, rfl⟩)
    | (go_at_call 5; (with_reducible refine (works15_any _ hG2).mono ?_); rintro e w3 ⟨rfl, hb3⟩))
  go_ret
  exact ⟨rfl, hB.call hb3⟩

/-- What holds of the world in the loop: the stream at k, the reference's at kw. -/
structure Sm (w W : World) (bs g cap g2 cap2 b9 : Nat) (ts : List Tok) (k kw : Nat) : Prop where
  bl : Bl w W
  st : Strm W bs g cap ts k
  row : Row W g2 ts
  want : W.heap[b9]? = some (.cells #[.slice (some ⟨g2, 0, none⟩) ts.length cap2, .int .i64 (kw : Int)] 44 (0, 0))
  h1 : w.heap.size ≤ bs
  h2 : w.heap.size ≤ b9
  h3 : bs ≠ b9
  h4 : g2 ≠ bs
  h5 : g2 ≠ b9
  h6 : g ≠ b9
variable {w W W' : World} {bs g cap g2 cap2 b9 k kw m : Nat} {ts : List Tok}
theorem Sm.call (h : Sm w W bs g cap g2 cap2 b9 ts k kw) (hb : Bl W W') : Sm w W' bs g cap g2 cap2 b9 ts k kw :=
  { h with bl := h.bl.call hb, st := h.st.bl hb, row := h.row.bl hb, want := (hb.block _ (Array.getElem?_eq_some_iff.1 h.want).1).trans h.want }
theorem Sm.next (h : Sm w W bs g cap g2 cap2 b9 ts k kw) (hg : W.grownBy W' (some bs)) (hs : Strm W' bs g cap ts m) : Sm w W' bs g cap g2 cap2 b9 ts m kw :=
  { h with
    bl := Below.grown h.bl hg h.bl.size (fun j e => by injection e with e; have := h.h1; omega)
    st := hs
    row := h.row.block (hg.block g2 (World.block_lt_of_cell? _ _ (h.row k h.st.lt).1) (by have := h.h4; simp; omega))
    want := (hg.block b9 (Array.getElem?_eq_some_iff.1 h.want).1 (by have := h.h3; simp; omega)).trans h.want }
theorem Sm.set9 (h : Sm w W bs g cap g2 cap2 b9 ts k kw) : Sm w ((W.setCell ⟨b9, 0, none⟩ (.slice (some ⟨g2, 0, none⟩) ts.length cap2)).setCell ⟨b9, 1, none⟩ (.int .i64 (m : Int))) bs g cap g2 cap2 b9 ts k m :=
  { h with
    bl := bl_two h.bl h.h2 _ _
    st := h.st.keep (heap_two_other _ h.h3 _ _) (heap_two_other _ h.h6 _ _)
    row := h.row.block (heap_two_other _ h.h5 _ _)
    want := heap_two _ _ _ _ _ _ _ h.want }
theorem Sm.cells (h : Sm w W bs g cap g2 cap2 b9 ts k kw) : W.cell? ⟨b9, 0, none⟩ = some (.slice (some ⟨g2, 0, none⟩) ts.length cap2) ∧ W.cell? ⟨b9, 1, none⟩ = some (.int .i64 (kw : Int)) ∧ W.frozen? ⟨b9, 0, none⟩ = false ∧ W.frozen? ⟨b9, 1, none⟩ = false ∧ b9 < W.heap.size := cells2 h.want

theorem Sm.set91 (h : Sm w W bs g cap g2 cap2 b9 ts k kw) : Sm w (W.setCell ⟨b9, 1, none⟩ (.int .i64 (m : Int))) bs g cap g2 cap2 b9 ts k m :=
  { h with
    bl := h.bl.set h.h2 _
    st := h.st.keep (heap_set_other _ ⟨b9, 1, none⟩ _ _ h.h3) (heap_set_other _ ⟨b9, 1, none⟩ _ _ h.h6)
    row := h.row.block (heap_set_other _ ⟨b9, 1, none⟩ _ _ h.h5)
    want := by simp [World.setCell, Array.getElem?_modify, h.want] }
theorem takeEnd_eq (g cap : Nat) (ts : List Tok) (k : Nat) (xs : List (List UInt8)) : takeEnd g cap ts k xs = .returned (.tuple #[RS g ts.length cap ((takeK ts k xs).getD k), .bool (takeK ts k xs).isSome]) := by
  unfold takeEnd
  cases takeK ts k xs <;> rfl
theorem TakePost.eq {xs : List (List UInt8)} {e : Ending} (h : TakePost W bs g cap ts k xs e W') : e = .returned (.bool (takeK ts k xs).isSome) ∧ W.grownBy W' (some bs) ∧ Strm W' bs g cap ts ((takeK ts k xs).getD k) := by
  obtain ⟨hg, ⟨k', h1, h2, h3⟩ | ⟨h1, h2, h3⟩⟩ := h
  · rw [h1]; exact ⟨h2, hg, h3⟩
  · rw [h1]; exact ⟨h2, hg, h3⟩
theorem cells3a {W : World} {b : Nat} {x0 x1 x2 : Value} {t : TypeId} (h : W.heap[b]? = some (.cells #[x0, x1, x2] t (0, 0))) : W.cell? ⟨b, 0, none⟩ = some x0 ∧ W.cell? ⟨b, 1, none⟩ = some x1 ∧ W.cell? ⟨b, 2, none⟩ = some x2 ∧ b < W.heap.size :=
  ⟨by rw [Lib.cell_of_heap h]; rfl, by rw [Lib.cell_of_heap h]; rfl, by rw [Lib.cell_of_heap h]; rfl, (Array.getElem?_eq_some_iff.1 h).1⟩
/-- The tokens of a text, the end's too. -/
def Tokens (s : List UInt8) (tl : List Tok) : Prop := ∃ ts, toksO s = some ts ∧ tl = ts ++ [endTok s.length]
theorem Tokens.len {s : List UInt8} {tl : List Tok} (h : Tokens s tl) : 0 < tl.length ∧ tl.length ≤ s.length + 1 := by
  obtain ⟨ts, h, rfl⟩ := h
  have := few_toks h
  simp
  omega
theorem New_tl (s : List UInt8) (hs : s.length ≤ 4000) (tl : List Tok) (h : Tokens s tl) (W : World) (hG : Glob W) : Calls Tryz.prog 9 #[S s] W fun e w' =>
    ∃ bs g cap, e = .returned (.tuple #[.pointer (some ⟨bs, 0, none⟩), .int .i64 0]) ∧ Bl W w' ∧ W.heap.size ≤ bs ∧ W.heap.size ≤ g ∧ Strm w' bs g cap tl 0 := by
  obtain ⟨ts, h, rfl⟩ := h
  exact tNew_good s hs ts h W hG
theorem rAll_tl (s : List UInt8) (hs : s.length ≤ 4000) (tl : List Tok) (h : Tokens s tl) (W : World) : Calls Tryz.prog 10 #[S s] W fun e w' =>
    ∃ g cap, e = .returned (.tuple #[.slice (some ⟨g, 0, none⟩) tl.length cap, .int .i64 0]) ∧ Bl W w' ∧ W.heap.size ≤ g ∧ g < w'.heap.size ∧ Row w' g tl := by
  obtain ⟨ts, h, rfl⟩ := h
  refine (rAll_good s hs ts h W).mono ?_
  rintro e w2 ⟨g2, cap2, he, hb2, hg2, ho⟩
  exact ⟨g2, cap2, by rw [he]; simp, hb2, hg2, (ho.lt g2 rfl).2, got_at ho⟩

set_option maxHeartbeats 4000000 in
theorem streams_good (s : List UInt8) (sv : Value) (l : List ActT) (hs : s.length ≤ 1000) (hn : l.length ≤ 40) (tl : List Tok) (h : Tokens s tl) (w : World) (hA : Acts w sv l) (hG : Glob w) : Calls Tryz.prog 4 #[S s, sv] w (Yes w) := by
  have H := Lib.hid h
  obtain ⟨hpos, hfew⟩ := h.len
  obtain ⟨a, capl, rfl, hac⟩ := hA
  have HAC := Lib.hid hac
  have HG := Lib.hid hG
  clear h hac hG
  have d0 : decide (1000 < (s.length : Int)) = false := by simp; omega
  have d1 : decide (40 < (l.length : Int)) = false := by simp; omega
  go_enter Tryz.func4, Tryz.ntmps4
  go_wp2_with fail
  (with_reducible refine (New_tl s (by omega) tl H.out _ HG.out).mono ?_)
  rintro e w1 ⟨bs, g, cap, rfl, hb1, hbs, hg, hst⟩
  have HST := Lib.hid hst
  have hbl : bs < w1.heap.size := (Array.getElem?_eq_some_iff.1 hst.own).1
  have hgl : g < w1.heap.size := World.block_lt_of_cell? _ _ (hst.row 0 hst.lt).1
  clear hst
  go_wp2_with fail
  (with_reducible refine (rAll_tl s (by omega) tl H.out _).mono ?_)
  rintro e w2 ⟨g2, cap2, rfl, hb2, hg2, hg2l, hrow⟩
  have HR := Lib.hid hrow
  have hsz := hb2.size
  clear hrow
  have HSM : Hid (Sm w (w2.alloc (.cells #[.slice (some ⟨g2, 0, none⟩) tl.length cap2, .int .i64 ((0 : Nat) : Int)] 44)) bs g cap g2 cap2 w2.heap.size tl 0 0) :=
    { bl := (hb1.call hb2).alloc _, st := HST.out.bl (hb2.alloc _), row := HR.out.bl ((Bl.refl w2).alloc _), want := heap_new _ _, h1 := hbs, h2 := by have := hb1.size; omega, h3 := by omega, h4 := by omega, h5 := by omega, h6 := by omega }
  have hbw := hb1.call hb2
  clear hb1 hb2 HST HR hg2 hg2l hbs hg hbl hgl hsz d0 d1
  go_wp2_with (first
    | (go_at_call 7; (with_reducible refine (num15_any _ _).mono ?_); rintro e w' ⟨rfl, rfl⟩))
  generalize w2.heap.size = b9 at *
  go_loopw [10] (fun i wr => ∃ (j k : Nat), j ≤ l.length ∧ i = .int .i64 (j : Int) ∧ Hid (Sm w wr bs g cap g2 cap2 b9 tl k k)) (fun i _ => l.length - (intOf i).toNat)
  case atStart => exact ⟨0, 0, Nat.zero_le _, rfl, HSM.out⟩
  case round =>
    obtain ⟨j, k, hj, rfl, SM⟩ := hrel
    by_cases hlt : j < l.length
    · obtain ⟨b, off, sw, rfl, e0, e1, e2, hst⟩ := HAC.out j hlt
      have c0 := SM.out.bl.cell e0
      have c1 := SM.out.bl.cell e1
      have c2 := SM.out.bl.cell e2
      have HS := Lib.hid hst
      obtain ⟨xa, xcap, rfl, -⟩ := hst.shape
      clear e0 e1 e2 hst
      generalize l[j] = act at *
      obtain ⟨what, at_, xs⟩ := act
      simp only at c0 c1 c2 HS
      by_cases h5 : 5 < xs.length
      · go_wp2
        go_roundw
        case rel => exact ⟨j + 1, k, by omega, by go_num, SM.out.call ((Bl.refl wr).alloc _)⟩
        case measure => simp [intOf]; omega
      have hxs : xs.length ≤ 5 := by omega
      go_upto_block 2 with fail
      have HB := Lib.hid (heap_new wr (.cells #[.int .i64 what, .int .i64 at_, .slice xa xs.length xcap] 47))
      have SM0 := Lib.hid (SM.out.call ((Bl.refl wr).alloc (.cells #[.int .i64 what, .int .i64 at_, .slice xa xs.length xcap] 47)))
      have hb11 : bs ≠ wr.heap.size := by have := (Array.getElem?_eq_some_iff.1 SM.out.st.own).1; omega
      have hb12 : b9 ≠ wr.heap.size := by have := (Array.getElem?_eq_some_iff.1 SM.out.want).1; omega
      have hkl := SM.out.st.lt
      have hfew2 := SM.out.st.few
      clear c0 c1 c2 SM
      generalize wr.alloc (.cells #[.int .i64 what, .int .i64 at_, .slice xa xs.length xcap] 47) = W0 at *
      generalize wr.heap.size = b11 at *
      go_cut [] from 77 to 164 (fun wc => ∃ k', Hid (Sm w wc bs g cap g2 cap2 b9 tl k' k'))
      case rest =>
        --BEGINR
        obtain ⟨k', SM⟩ := hcut
        have hkl' := SM.out.st.lt
        obtain ⟨⟨xk, xp, xt, xv1, xv2, xv3⟩, hx⟩ : ∃ x, tl[k']? = some x := ⟨_, List.getElem?_eq_getElem hkl'⟩
        have HX := Lib.hid hx
        have hneT := fun W => neT_same xk xp xt xv1 xv2 xv3 W
        have SMd := Lib.hid (SM.out.call (Bl.refl wc).drew)
        have HS0 := Lib.hid (And.intro SMd.out.cells.1 SMd.out.cells.2.1)
        have hrow : (tl.length ≤ 100000) := hfew2
        clear hx
        go_wp2_with fail
        refine wp_region_noPanic (wp_region_sched (fun w' => w'.cell? ⟨b9, 0, none⟩ = some (.slice (some ⟨g2, 0, none⟩) tl.length cap2) ∧ w'.cell? ⟨b9, 1, none⟩ = some (.int .i64 (k' : Int))) [(0, true), (2, true), (1, false), (3, false), (4, true), (5, true), (6, true), (8, true), (9, true), (7, false), (10, true), (11, true)] (by kernel_rfl) rfl (by kernel_rfl) (by kernel_rfl) (fun _ _ _ _ _ h => h) HS0.out ?_)
        have hHeld := HS0.out
        refine sched_take rfl (by rfl) (by intro w hSw; (try dsimp only at hSw); go_simp; (try with_reducible rfl)) ?_; (try simp only [Act.put, List.setIfInBounds_toArray, List.set_cons_zero, List.set_cons_succ, List.getElem_toArray, List.getElem_cons_zero, List.getElem_cons_succ])
        refine sched_take rfl (by rfl) (by intro w hSw; (try dsimp only at hSw); go_simp; (try with_reducible rfl)) ?_; (try simp only [Act.put, List.setIfInBounds_toArray, List.set_cons_zero, List.set_cons_succ, List.getElem_toArray, List.getElem_cons_zero, List.getElem_cons_succ])
        refine sched_call rfl (fun K hK => ?_); go_simp; ((with_reducible refine (tPeek_any SMd.out.st HX.out).mono ?_); rintro e wa ⟨rfl, hba⟩; have SMa := Lib.hid (SMd.out.call hba); clear hba); go_wp2_with fail; refine hK.out _ _ (⟨SMa.out.cells.1, SMa.out.cells.2.1⟩) (fun hHeld2 => ?_); clear hHeld hK K; have hHeld := hHeld2; clear hHeld2
        refine sched_call rfl (fun K hK => ?_); go_simp; ((with_reducible refine (rPeek_any SMa.out.row hfew2 HX.out).mono ?_); rintro e wb ⟨rfl, hbb⟩; have SMb := Lib.hid (SMa.out.call hbb); clear hbb); go_wp2_with fail; refine hK.out _ _ (⟨SMb.out.cells.1, SMb.out.cells.2.1⟩) (fun hHeld2 => ?_); clear hHeld hK K; have hHeld := hHeld2; clear hHeld2
        refine sched_take rfl (by rfl) (by intro w hSw; (try dsimp only at hSw); go_simp; (try with_reducible rfl)) ?_; (try simp only [Act.put, List.setIfInBounds_toArray, List.set_cons_zero, List.set_cons_succ, List.getElem_toArray, List.getElem_cons_zero, List.getElem_cons_succ])
        refine sched_take rfl (by rfl) (by intro w hSw; (try dsimp only at hSw); go_simp; (try with_reducible rfl)) ?_; (try simp only [Act.put, List.setIfInBounds_toArray, List.set_cons_zero, List.set_cons_succ, List.getElem_toArray, List.getElem_cons_zero, List.getElem_cons_succ])
        refine sched_take rfl (by rfl) (by intro w hSw; (try dsimp only at hSw); go_simp; (try with_reducible rfl)) ?_; (try simp only [Act.put, List.setIfInBounds_toArray, List.set_cons_zero, List.set_cons_succ, List.getElem_toArray, List.getElem_cons_zero, List.getElem_cons_succ])
        refine sched_take rfl (by rfl) (by intro w hSw; (try dsimp only at hSw); go_simp; (try with_reducible rfl)) ?_; (try simp only [Act.put, List.setIfInBounds_toArray, List.set_cons_zero, List.set_cons_succ, List.getElem_toArray, List.getElem_cons_zero, List.getElem_cons_succ])
        refine sched_take rfl (by rfl) (by intro w hSw; (try dsimp only at hSw); go_simp; (try with_reducible rfl)) ?_; (try simp only [Act.put, List.setIfInBounds_toArray, List.set_cons_zero, List.set_cons_succ, List.getElem_toArray, List.getElem_cons_zero, List.getElem_cons_succ])
        refine sched_call rfl (fun K hK => ?_); go_simp; ((with_reducible refine (tAt_any SMb.out.st).mono ?_); rintro e wd ⟨rfl, rfl⟩); go_wp2_with fail; refine hK.out _ _ (⟨SMb.out.cells.1, SMb.out.cells.2.1⟩) (fun hHeld2 => ?_); clear hHeld hK K; have hHeld := hHeld2; clear hHeld2
        refine sched_take rfl (by rfl) (by intro w hSw; (try dsimp only at hSw); go_simp; (try with_reducible rfl)) ?_; (try simp only [Act.put, List.setIfInBounds_toArray, List.set_cons_zero, List.set_cons_succ, List.getElem_toArray, List.getElem_cons_zero, List.getElem_cons_succ])
        refine sched_take rfl (by rfl) (by intro w hSw; (try dsimp only at hSw); go_simp; (try with_reducible rfl)) ?_; (try simp only [Act.put, List.setIfInBounds_toArray, List.set_cons_zero, List.set_cons_succ, List.getElem_toArray, List.getElem_cons_zero, List.getElem_cons_succ])
        refine sched_nil (NoPanic.normal ?_)
        clear hHeld
        go_wp2_with fail
        go_roundw
        case rel => exact ⟨j + 1, k', by omega, by go_num, SMb.out⟩
        case measure => simp [intOf]; omega
        --ENDR
      case first =>
        by_cases w0 : what = 0
        · subst w0
          --BEGIN0
          obtain ⟨⟨xk, xp, xt, xv1, xv2, xv3⟩, hx⟩ : ∃ x, tl[k]? = some x := ⟨_, List.getElem?_eq_getElem hkl⟩
          have HX := Lib.hid hx
          have hneT := fun W => neT_same xk xp xt xv1 xv2 xv3 W
          have SMd := Lib.hid (SM0.out.call (Bl.refl W0).drew)
          have HS0 := Lib.hid (And.intro SMd.out.cells.1 SMd.out.cells.2.1)
          clear hx
          go_wp2_with fail
          refine wp_region_noPanic (wp_region_sched (fun w' => w'.cell? ⟨b9, 0, none⟩ = some (.slice (some ⟨g2, 0, none⟩) tl.length cap2) ∧ w'.cell? ⟨b9, 1, none⟩ = some (.int .i64 (k : Int))) [(0, true), (2, true), (1, false), (3, false), (4, true)] (by kernel_rfl) rfl (by kernel_rfl) (by kernel_rfl) (fun _ _ _ _ _ h => h) HS0.out ?_)
          have hHeld := HS0.out
          refine sched_take rfl (by rfl) (by intro w hSw; (try dsimp only at hSw); go_simp; (try with_reducible rfl)) ?_; (try simp only [Act.put, List.setIfInBounds_toArray, List.set_cons_zero, List.set_cons_succ, List.getElem_toArray, List.getElem_cons_zero, List.getElem_cons_succ])
          refine sched_take rfl (by rfl) (by intro w hSw; (try dsimp only at hSw); go_simp; (try with_reducible rfl)) ?_; (try simp only [Act.put, List.setIfInBounds_toArray, List.set_cons_zero, List.set_cons_succ, List.getElem_toArray, List.getElem_cons_zero, List.getElem_cons_succ])
          refine sched_call rfl (fun K hK => ?_); go_simp; ((with_reducible refine (tNext_any SMd.out.st HX.out).mono ?_); rintro e wa ⟨rfl, hga, hsa⟩; have SMa := Lib.hid (SMd.out.next hga hsa); clear hga hsa); go_wp2_with fail; refine hK.out _ _ (⟨SMa.out.cells.1, SMa.out.cells.2.1⟩) (fun hHeld2 => ?_); clear hHeld hK K; have hHeld := hHeld2; clear hHeld2
          refine sched_call rfl (fun K hK => ?_); go_simp; ((with_reducible refine (rPeek_any SMa.out.row hfew2 HX.out).mono ?_); rintro e wb ⟨rfl, hbb⟩; have SMb := Lib.hid (SMa.out.call hbb); clear hbb); go_wp2_with fail; refine hK.out _ _ (⟨SMb.out.cells.1, SMb.out.cells.2.1⟩) (fun hHeld2 => ?_); clear hHeld hK K; have hHeld := hHeld2; clear hHeld2
          refine sched_take rfl (by rfl) (by intro w hSw; (try dsimp only at hSw); go_simp; (try with_reducible rfl)) ?_; (try simp only [Act.put, List.setIfInBounds_toArray, List.set_cons_zero, List.set_cons_succ, List.getElem_toArray, List.getElem_cons_zero, List.getElem_cons_succ])
          refine sched_nil (NoPanic.normal ?_)
          clear hHeld
          obtain ⟨r0, r1, -, -, hl9⟩ := SMb.out.cells
          go_wp2_with fail
          (with_reducible refine (rNext_any hkl hfew2).mono ?_)
          rintro e wd ⟨rfl, hbd⟩
          have SMd2 := Lib.hid (SMb.out.call hbd)
          clear r0 r1 hbd
          obtain ⟨r0, r1, z0, z1, hl9'⟩ := SMd2.out.cells
          go_wp2_with fail
          go_meet
          case rel => exact ⟨_, SMd2.out.set9⟩
          --END0
        by_cases w1 : what = 1
        · subst w1
          --BEGIN1
          obtain ⟨x, hx⟩ : ∃ x, tl[k]? = some x := ⟨_, List.getElem?_eq_getElem hkl⟩
          have HX := Lib.hid hx
          clear hx
          go_wp2_with fail
          (with_reducible refine (tName_any SM0.out.st HX.out).mono ?_)
          rintro e wa ⟨hga, hcase⟩
          cases hn : isName1 x
          · obtain ⟨rfl, hsa⟩ : e = .returned (.tuple #[S [], .bool false]) ∧ Strm wa bs g cap tl k := by
              rcases hcase with ⟨h, _⟩ | ⟨_, h⟩
              · rw [hn] at h; cases h
              · exact h
            have SMa := Lib.hid (SM0.out.next hga hsa)
            have HN := Lib.hid hn
            clear hga hsa hcase hn
            obtain ⟨r0, r1, -, -, hl9⟩ := SMa.out.cells
            go_wp2_with fail
            (with_reducible refine (rName_any SMa.out.row hfew2 HX.out).mono ?_)
            rintro e wb ⟨hbb, hcase⟩
            obtain rfl : e = .returned (.tuple #[RS g2 tl.length cap2 k, S [], .bool false]) := by
              rcases hcase with ⟨h, _⟩ | ⟨_, h⟩
              · rw [HN.out] at h; cases h
              · exact h
            have SMb := Lib.hid (SMa.out.call (hbb.alloc (.cells #[.slice (some ⟨g2, 0, none⟩) tl.length cap2, .int .i64 (k : Int)] 44)))
            have SMc := Lib.hid (SMa.out.call hbb)
            clear r0 r1 hcase hbb
            obtain ⟨r0, r1, z0, z1, hl9'⟩ := SMc.out.cells
            go_wp2_with fail
            go_meet
            case rel => exact ⟨k, by first | exact SMb.out.set9 | exact SMc.out.set9.call ((Bl.refl _).alloc _)⟩
          · obtain ⟨rfl, hsa⟩ : e = .returned (.tuple #[S x.t, .bool true]) ∧ Strm wa bs g cap tl (nextK tl.length k) := by
              rcases hcase with ⟨_, h⟩ | ⟨h, _⟩
              · exact h
              · rw [hn] at h; cases h
            have SMa := Lib.hid (SM0.out.next hga hsa)
            have HN := Lib.hid hn
            clear hga hsa hcase hn
            obtain ⟨r0, r1, -, -, hl9⟩ := SMa.out.cells
            go_wp2_with fail
            (with_reducible refine (rName_any SMa.out.row hfew2 HX.out).mono ?_)
            rintro e wb ⟨hbb, hcase⟩
            obtain rfl : e = .returned (.tuple #[RS g2 tl.length cap2 (nextK tl.length k), S x.t, .bool true]) := by
              rcases hcase with ⟨_, h⟩ | ⟨h, _⟩
              · exact h
              · rw [HN.out] at h; cases h
            have SMc := Lib.hid (SMa.out.call hbb)
            clear r0 r1 hcase hbb
            obtain ⟨r0, r1, z0, z1, hl9'⟩ := SMc.out.cells
            go_wp2_with fail
            go_meet
            case rel => exact ⟨_, by first | exact SMc.out.set9 | exact SMc.out.set9.call ((Bl.refl _).alloc _)⟩
          --END1
        have hB0 := SM0.out.bl
        have hn0 := SM0.out.h1
        obtain ⟨y0, y1, y2, hl11⟩ := cells3a HB.out
        by_cases w2 : what = 2 ∨ what = 3
        · have w0' : (what == 0) = false := by simpa using w0
          have w1' : (what == 1) = false := by simpa using w1
          clear w0 w1
          --BEGIN2
          generalize hkr : (takeK tl k xs).getD k = kr at *
          generalize hbt : (takeK tl k xs).isSome = bt at *
          have HE : Hid (takeEnd g2 cap2 tl k xs = .returned (.tuple #[RS g2 tl.length cap2 kr, .bool bt])) := by show takeEnd g2 cap2 tl k xs = _; rw [takeEnd_eq, hkr, hbt]
          have HKR := Lib.hid hkr
          have HBT := Lib.hid hbt
          clear hkr hbt
          obtain ⟨r0, r1, -, -, hl9⟩ := SM0.out.cells
          have hrT : Hid (Calls Tryz.prog 16 #[RS g2 tl.length cap2 k, .slice xa xs.length xcap] W0 fun e w' => e = .returned (.tuple #[RS g2 tl.length cap2 kr, .bool bt]) ∧ Bl W0 w') :=
            (rTake_any SM0.out.row hfew2 hkl _ xs (HS.out.bl hB0) (by omega)).mono fun e w' ⟨he, hb⟩ => ⟨he.trans HE.out, hb⟩
          rcases w2 with rfl | rfl
          all_goals
            go_wp2_with fail
            (with_reducible refine hrT.out.mono ?_)
            rintro e wa ⟨rfl, hba⟩
            have HBa := Lib.hid ((hba.block _ hl11).trans HB.out)
            have SMa := Lib.hid (SM0.out.call hba)
            have SMb := Lib.hid ((SMa.out.set9 (m := kr)).call ((Bl.refl _).alloc (.cells #[.slice (some ⟨g2, 0, none⟩) tl.length cap2, .int .i64 (kr : Int)] 44)))
            have HBb := Lib.hid (((Bl.refl _).alloc (.cells #[.slice (some ⟨g2, 0, none⟩) tl.length cap2, .int .i64 (kr : Int)] 44)).block _ (by simp [World.setCell]; exact (Array.getElem?_eq_some_iff.1 HBa.out).1) |>.trans ((heap_two_other wa hb12.symm (.slice (some ⟨g2, 0, none⟩) tl.length cap2) (.int .i64 (kr : Int))).trans HBa.out))
            have hXb := Lib.hid (HS.out.strsX SMb.out.bl SMb.out.bl.size hn0)
            clear r0 r1 hba y0 y1 y2 hl11
            obtain ⟨r0, r1, z0, z1, hl9'⟩ := SMa.out.cells
            obtain ⟨y0, y1, y2, hl11⟩ := cells3a HBa.out
            go_wp2_with fail
            (with_reducible refine (tTake_any SMb.out.st _ xs hXb.out (by omega)).mono ?_)
            rintro e wd hpost
            obtain ⟨rfl, hgd, hsd⟩ := hpost.eq
            rw [HBT.out]
            rw [HKR.out] at hsd
            have SMd := Lib.hid (SMb.out.next hgd hsd)
            have HBd := Lib.hid ((hgd.block _ (Array.getElem?_eq_some_iff.1 HBb.out).1 (by simp; omega)).trans HBb.out)
            clear hpost hgd hsd r0 r1 z0 z1 y0 y1 y2 hl11 hl9'
            obtain ⟨y0, y1, y2, hl11⟩ := cells3a HBd.out
            have hbn : (bt != bt) = false := by cases bt <;> rfl
            go_wp2_with fail
            go_loopw [19] (fun i wr => ∃ q : Nat, q ≤ xs.length ∧ i = .int .i64 (q : Int) ∧ Hid (Sm w wr bs g cap g2 cap2 b9 tl kr kr) ∧ Hid (wr.heap[b11]? = wd.heap[b11]?)) (fun i _ => xs.length - (intOf i).toNat)
            case atStart => exact ⟨0, Nat.zero_le _, rfl, SMd.out, rfl⟩
            case round =>
              obtain ⟨q, hq, rfl, SMe, HBe'⟩ := hrel
              have HBe := Lib.hid (HBe'.out.trans HBd.out)
              clear y0 y1 y2 hl11
              obtain ⟨y0, y1, y2, hl11⟩ := cells3a HBe.out
              by_cases hlq : q < xs.length
              · obtain ⟨xa', xcap', hsv, hcx⟩ := (HS.out.bl SMe.out.bl).shape
                injection hsv with hsv1 hsv2 hsv3
                subst hsv1
                obtain ⟨bx, ox, rfl, hcell⟩ := hcx q hlq
                have HS0 := Lib.hid (And.intro ((Bl.refl wr).drew.cell y2) ((Bl.refl wr).drew.cell hcell))
                clear hcx hcell hsv2 hsv3
                generalize xs[q] = y at *
                have hbn : ∀ W, (binOp .neq 4 (.bool (kwB y)) (.bool (kwB y))).run Tryz.prog W = .ok (.bool false) W := fun W => by cases kwB y <;> rfl
                go_wp2_with fail
                refine wp_region_noPanic (wp_region_sched (fun w' => w'.cell? ⟨b11, 2, none⟩ = some (.slice (some ⟨bx, ox, none⟩) xs.length xcap) ∧ w'.cell? ⟨bx, ox + q, none⟩ = some (S y)) [(0, true), (1, true), (2, true), (3, true), (4, true), (6, true), (7, true), (8, true), (9, true), (10, true), (5, false), (11, false), (12, true)] (by kernel_rfl) rfl (by kernel_rfl) (by kernel_rfl) (fun _ _ _ _ _ h => h) HS0.out ?_)
                have hHeld := HS0.out
                refine sched_take rfl (by rfl) (by intro w hSw; (try dsimp only at hSw); go_simp; (try with_reducible rfl)) ?_; (try simp only [Act.put, List.setIfInBounds_toArray, List.set_cons_zero, List.set_cons_succ, List.getElem_toArray, List.getElem_cons_zero, List.getElem_cons_succ])
                refine sched_take rfl (by rfl) (by intro w hSw; (try dsimp only at hSw); go_simp; (try with_reducible rfl)) ?_; (try simp only [Act.put, List.setIfInBounds_toArray, List.set_cons_zero, List.set_cons_succ, List.getElem_toArray, List.getElem_cons_zero, List.getElem_cons_succ])
                refine sched_take rfl (by rfl) (by intro w hSw; (try dsimp only at hSw); go_simp; (try with_reducible rfl)) ?_; (try simp only [Act.put, List.setIfInBounds_toArray, List.set_cons_zero, List.set_cons_succ, List.getElem_toArray, List.getElem_cons_zero, List.getElem_cons_succ])
                refine sched_take rfl (by rfl) (by intro w hSw; (try dsimp only at hSw); go_simp; (try with_reducible rfl)) ?_; (try simp only [Act.put, List.setIfInBounds_toArray, List.set_cons_zero, List.set_cons_succ, List.getElem_toArray, List.getElem_cons_zero, List.getElem_cons_succ])
                refine sched_take rfl (by rfl) (by intro w hSw; (try dsimp only at hSw); go_simp; (try with_reducible rfl)) ?_; (try simp only [Act.put, List.setIfInBounds_toArray, List.set_cons_zero, List.set_cons_succ, List.getElem_toArray, List.getElem_cons_zero, List.getElem_cons_succ])
                refine sched_take rfl (by rfl) (by intro w hSw; (try dsimp only at hSw); go_simp; (try with_reducible rfl)) ?_; (try simp only [Act.put, List.setIfInBounds_toArray, List.set_cons_zero, List.set_cons_succ, List.getElem_toArray, List.getElem_cons_zero, List.getElem_cons_succ])
                refine sched_take rfl (by rfl) (by intro w hSw; (try dsimp only at hSw); go_simp; (try with_reducible rfl)) ?_; (try simp only [Act.put, List.setIfInBounds_toArray, List.set_cons_zero, List.set_cons_succ, List.getElem_toArray, List.getElem_cons_zero, List.getElem_cons_succ])
                refine sched_take rfl (by rfl) (by intro w hSw; (try dsimp only at hSw); go_simp; (try with_reducible rfl)) ?_; (try simp only [Act.put, List.setIfInBounds_toArray, List.set_cons_zero, List.set_cons_succ, List.getElem_toArray, List.getElem_cons_zero, List.getElem_cons_succ])
                refine sched_take rfl (by rfl) (by intro w hSw; (try dsimp only at hSw); go_simp; (try with_reducible rfl)) ?_; (try simp only [Act.put, List.setIfInBounds_toArray, List.set_cons_zero, List.set_cons_succ, List.getElem_toArray, List.getElem_cons_zero, List.getElem_cons_succ])
                refine sched_take rfl (by rfl) (by intro w hSw; (try dsimp only at hSw); go_simp; (try with_reducible rfl)) ?_; (try simp only [Act.put, List.setIfInBounds_toArray, List.set_cons_zero, List.set_cons_succ, List.getElem_toArray, List.getElem_cons_zero, List.getElem_cons_succ])
                refine sched_call rfl (fun K hK => ?_); go_simp; ((with_reducible refine (Keyword_any y _).mono ?_); rintro e wk ⟨rfl, hb⟩; have hb1 := Lib.hid hb); go_wp2_with fail; refine hK.out _ _ (⟨hb.cell hHeld.1, hb.cell hHeld.2⟩) (fun hHeld2 => ?_); clear hHeld hK K; have hHeld := hHeld2; clear hHeld2
                refine sched_call rfl (fun K hK => ?_); go_simp; ((with_reducible refine (rKeyword_any y _).mono ?_); rintro e wm ⟨rfl, hb⟩; have hb2 := Lib.hid hb); go_wp2_with fail; refine hK.out _ _ (⟨hb.cell hHeld.1, hb.cell hHeld.2⟩) (fun hHeld2 => ?_); clear hHeld hK K; have hHeld := hHeld2; clear hHeld2
                refine sched_take rfl (by rfl) (by intro w hSw; (try dsimp only at hSw); go_simp; (try with_reducible rfl)) ?_; (try simp only [Act.put, List.setIfInBounds_toArray, List.set_cons_zero, List.set_cons_succ, List.getElem_toArray, List.getElem_cons_zero, List.getElem_cons_succ])
                refine sched_nil (NoPanic.normal ?_)
                clear hHeld
                have hbr : Hid (Bl wr wm) := ((Bl.refl wr).drew.call hb1.out).call hb2.out
                go_wp2_with fail
                go_roundw
                case rel => exact ⟨q + 1, by omega, by go_num, SMe.out.call hbr.out, (hbr.out.block _ hl11).trans HBe'.out⟩
                case measure => simp [intOf]; omega
              · obtain rfl : q = xs.length := by omega
                go_wp2_with fail
                go_meet
                case rel => exact ⟨kr, SMe.out⟩
          --END2
        · have w0' : (what == 0) = false := by simpa using w0
          have w1' : (what == 1) = false := by simpa using w1
          have w2' : (what == 2) = false := by simpa using fun h => w2 (.inl h)
          have w3' : (what == 3) = false := by simpa using fun h => w2 (.inr h)
          clear w0 w1 w2
          --BEGIN3
          by_cases hin : 0 ≤ at_ ∧ at_ < tl.length
          · obtain ⟨ha0, ha1⟩ := hin
            obtain ⟨m, rfl⟩ := Int.eq_ofNat_of_zero_le ha0
            have ha1' : m < tl.length := by omega
            have d2 : decide (0 ≤ (m : Int)) = true := by simp
            obtain ⟨r0, r1, z0, z1, hl9⟩ := SM0.out.cells
            have SMa := Lib.hid (SM0.out.set91 (m := m))
            go_wp2_with fail
            (with_reducible refine (tBack_any SMa.out.st (m : Int)).mono ?_)
            rintro e wb ⟨hgb, hcase⟩
            obtain ⟨rfl, hsb⟩ : e = .returned (.bool true) ∧ Strm wb bs g cap tl m := by
              rcases hcase with ⟨_, _, h, h'⟩ | ⟨h, _⟩
              · exact ⟨h, h'⟩
              · exact absurd ⟨ha0, ha1⟩ h
            have SMb := Lib.hid (SMa.out.next hgb hsb)
            clear hgb hsb hcase
            go_wp2_with fail
            go_meet
            case rel => exact ⟨m, SMb.out⟩
          · have hneg : at_ < 0 ∨ (0 ≤ at_ ∧ (tl.length : Int) ≤ at_) := by omega
            have HIN := Lib.hid hin
            clear hin
            rcases hneg with hneg | ⟨ha0, ha1⟩
            case' inl => have d2 : decide (0 ≤ at_) = false := by simp; omega
            case' inr => have d2 : decide (at_ < (tl.length : Int)) = false := by simp; omega
            all_goals
              go_wp2_with fail
              (with_reducible refine (tBack_any SM0.out.st at_).mono ?_)
              rintro e wb ⟨hgb, hcase⟩
              obtain ⟨rfl, hsb⟩ : e = .returned (.bool false) ∧ Strm wb bs g cap tl k := by
                rcases hcase with ⟨h, h', _⟩ | ⟨_, h, h'⟩
                · exact absurd ⟨h, h'⟩ HIN.out
                · exact ⟨h, h'⟩
              have SMb := Lib.hid (SM0.out.next hgb hsb)
              clear hgb hsb hcase
              go_wp2_with fail
              go_meet
              case rel => exact ⟨k, SMb.out⟩
          --END3
    · obtain rfl : j = l.length := by omega
      have hB := SM.out.bl
      have hle0 : ¬ ((l.length : Int) < (l.length : Int)) := by omega
      clear hbw
      --BEGINE
      have hE : ∀ W, (binOp .eql 34 (.agg #[.int .i64 0, .int .i64 0, .string ⟨#[]⟩, .int .i64 0, .int .i64 0, .string ⟨#[]⟩]) (.agg #[.int .i64 0, .int .i64 0, .string ⟨#[]⟩, .int .i64 0, .int .i64 0, .string ⟨#[]⟩])).run Tryz.prog W = .ok (.bool true) W := fun W => eqT_same 0 0 [] 0 0 [] W
      have HN1 : Hid (NoStr wr none) := .inl rfl
      have HN2 : Hid (NoStr (wr.alloc (.cells #[.slice none 0 0, .int .i64 0] 63)) (some ⟨wr.heap.size, 0, none⟩)) := .inr ⟨_, rfl, heap_new _ _⟩
      have hB2 := hB.alloc (.cells #[.slice none 0 0, .int .i64 0] 63)
      rcases (show (l.length : Int) % 2 = 0 ∨ (l.length : Int) % 2 = 1 by omega) with hm | hm
      · have hm1 : (((l.length : Int) % 2) == 1) = false := by rw [hm]; rfl
        clear hm
        go_wp2_with fail
        (with_reducible refine (tName_none HN1.out).mono ?_)
        rintro e wa ⟨rfl, hba⟩
        have HNa := Lib.hid (HN1.out.bl hba)
        go_wp2_with fail
        (with_reducible refine (tPeek_none HNa.out).mono ?_)
        rintro e wb ⟨rfl, hbb⟩
        have HNb := Lib.hid (HNa.out.bl hbb)
        go_wp2_with fail
        (with_reducible refine (tNext_none HNb.out).mono ?_)
        rintro e wc ⟨rfl, hbc⟩
        have HNc := Lib.hid (HNb.out.bl hbc)
        go_wp2_with fail
        (with_reducible refine (tTake_none HNc.out _ _ _).mono ?_)
        rintro e wd ⟨rfl, hbd⟩
        have HNd := Lib.hid (HNc.out.bl hbd)
        have hBd := (((hB.call hba).call hbb).call hbc).call hbd
        have HBd := Lib.hid hBd
        have hGd := HG.out.bl hBd
        go_wp2_with (first
          | (go_at_call 22; (with_reducible refine (tAt_none HNd.out).mono ?_); rintro e w' ⟨rfl, rfl⟩)
          | (go_at_call 20; (with_reducible refine (tBack_none HNd.out).mono ?_); rintro e w' ⟨rfl, rfl⟩)
          | (go_at_call 5; (with_reducible refine (works15_any _ hGd).mono ?_); rintro e w3 ⟨rfl, hb3⟩))
        go_ret
        exact ⟨rfl, HBd.out.call hb3⟩
      · have hm1 : (((l.length : Int) % 2) == 1) = true := by rw [hm]; rfl
        clear hm
        go_wp2_with fail
        (with_reducible refine (tName_none HN2.out).mono ?_)
        rintro e wa ⟨rfl, hba⟩
        have HNa := Lib.hid (HN2.out.bl hba)
        go_wp2_with fail
        (with_reducible refine (tPeek_none HNa.out).mono ?_)
        rintro e wb ⟨rfl, hbb⟩
        have HNb := Lib.hid (HNa.out.bl hbb)
        go_wp2_with fail
        (with_reducible refine (tNext_none HNb.out).mono ?_)
        rintro e wc ⟨rfl, hbc⟩
        have HNc := Lib.hid (HNb.out.bl hbc)
        go_wp2_with fail
        (with_reducible refine (tTake_none HNc.out _ _ _).mono ?_)
        rintro e wd ⟨rfl, hbd⟩
        have HNd := Lib.hid (HNc.out.bl hbd)
        have hBd := (((hB2.call hba).call hbb).call hbc).call hbd
        have HBd := Lib.hid hBd
        have hGd := HG.out.bl hBd
        go_wp2_with (first
          | (go_at_call 22; (with_reducible refine (tAt_none HNd.out).mono ?_); rintro e w' ⟨rfl, rfl⟩)
          | (go_at_call 20; (with_reducible refine (tBack_none HNd.out).mono ?_); rintro e w' ⟨rfl, rfl⟩)
          | (go_at_call 5; (with_reducible refine (works15_any _ hGd).mono ?_); rintro e w3 ⟨rfl, hb3⟩))
        go_ret
        exact ⟨rfl, HBd.out.call hb3⟩
      --ENDE

end Go.Proofs.YtdhaddldmooniaaGreatDoor
