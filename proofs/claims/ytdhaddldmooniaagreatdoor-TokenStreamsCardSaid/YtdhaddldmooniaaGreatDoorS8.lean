/- The program's Take. -/
import Derived.Test.YtdhaddldmooniaaGreatDoorS7
import Derived.Test.YtdhaddldmooniaaGreatDoorS2
import Derived.RangeFuncBox
namespace Go.Proofs.YtdhaddldmooniaaGreatDoor
open Go.RowKit Go.Shelf

attribute [local go_sem] Oper.semAt_some

theorem grown_far {w A B : World} {x D : Nat} (h : w.grownBy A (some x)) (k : A.grownBy B (some D)) (hD : w.heap.size ≤ D) : w.grownBy B (some x) :=
  ⟨k.1.trans h.1, k.2.trans h.2, k.3.trans h.3, Nat.le_trans h.4 k.4, fun i hi hr => (k.5 i (Nat.lt_of_lt_of_le hi h.4) (fun e => by injection e; omega)).trans (h.5 i hi hr)⟩

/-- What holds of the world between two rounds of Take. -/
def TkI (w : World) (bs g cap : Nat) (ts : List Tok) (k : Nat) (pre : List (List UInt8)) (W : World) : Prop :=
  ∃ k', takeK ts k pre = some k' ∧ Strm W bs g cap ts k' ∧ Boxed W w.heap.size 38 (.pointer (some ⟨bs, 0, none⟩)) ∧ Boxed W (w.heap.size + 1) 4 (.bool false) ∧ Boxed W (w.heap.size + 2) 3 (.int .i64 (k : Int)) ∧ w.grownBy W (some bs)
def TkX (w : World) (bs g cap : Nat) (ts : List Tok) (k : Nat) (c : Code) (pre : List (List UInt8)) (W : World) : Prop :=
  c = .ret ∧ takeK ts k pre = none ∧ Strm W bs g cap ts k ∧ Boxed W (w.heap.size + 1) 4 (.bool false) ∧ w.grownBy W (some bs)
def TakePost (W : World) (bs g cap : Nat) (ts : List Tok) (k : Nat) (xs : List (List UInt8)) (e : Ending) (w' : World) : Prop :=
  W.grownBy w' (some bs) ∧ ((∃ k', takeK ts k xs = some k' ∧ e = .returned (.bool true) ∧ Strm w' bs g cap ts k') ∨ (takeK ts k xs = none ∧ e = .returned (.bool false) ∧ Strm w' bs g cap ts k))

theorem Strm.grownBy {W W' : World} {bs g cap k : Nat} {ts : List Tok} (h : Strm W bs g cap ts k) {row : Option Nat} (hg : W.grownBy W' row) (h1 : some bs ≠ row) (h2 : some g ≠ row) : Strm W' bs g cap ts k :=
  h.keep (hg.block bs (Array.getElem?_eq_some_iff.1 h.own).1 h1) (hg.block g (World.block_lt_of_cell? _ _ (h.row k h.lt).1) h2)

theorem tkI_own (w : World) (B bs g cap : Nat) (ts : List Tok) (k : Nat) (hB : w.heap.size + 2 < B) (hbs : bs < w.heap.size) (hg : g < w.heap.size) : OwnFrom B (TkI w bs g cap ts k) := by
  rintro s W W' row ⟨k', h1, h2, h3, h4, h5, h6⟩ hgr hr
  have hne : ∀ i, i < B → some i ≠ row := fun i hi e => by have := (hr i e.symm).1; omega
  refine ⟨k', h1, h2.grownBy hgr (hne _ (by omega)) (hne _ (by omega)), h3.kept hgr (hne _ (by omega)), h4.kept hgr (hne _ (by omega)), h5.kept hgr (hne _ (by omega)), ?_⟩
  cases row with
  | none => exact ⟨hgr.1.trans h6.1, hgr.2.trans h6.2, hgr.3.trans h6.3, Nat.le_trans h6.4 hgr.4, fun i hi hx => (hgr.5 i (Nat.lt_of_lt_of_le hi h6.4) (by simp)).trans (h6.5 i hi hx)⟩
  | some r => exact grown_far h6 hgr (by have := (hr r rfl).1; omega)
theorem tkX_own (w : World) (B bs g cap : Nat) (ts : List Tok) (k : Nat) (c : Code) (hB : w.heap.size + 2 < B) (hbs : bs < w.heap.size) (hg : g < w.heap.size) : OwnFrom B (TkX w bs g cap ts k c) := by
  rintro s W W' row ⟨h0, h1, h2, h4, h6⟩ hgr hr
  have hne : ∀ i, i < B → some i ≠ row := fun i hi e => by have := (hr i e.symm).1; omega
  refine ⟨h0, h1, h2.grownBy hgr (hne _ (by omega)) (hne _ (by omega)), h4.kept hgr (hne _ (by omega)), ?_⟩
  cases row with
  | none => exact ⟨hgr.1.trans h6.1, hgr.2.trans h6.2, hgr.3.trans h6.3, Nat.le_trans h6.4 hgr.4, fun i hi hx => (hgr.5 i (Nat.lt_of_lt_of_le hi h6.4) (by simp)).trans (h6.5 i hi hx)⟩
  | some r => exact grown_far h6 hgr (by have := (hr r rfl).1; omega)

theorem tk_go {w W1 W3 : World} {B bs g cap k k2 : Nat} {ts : List Tok} {pre : List (List UInt8)} {a : Act} (hg3 : W1.grownBy W3 (some bs)) (hB : bs < B) (hl : w.heap.size ≤ W1.heap.size) (h1 : takeK ts k pre = some k2) (h2 : Strm W3 bs g cap ts k2)
    (h3 : Boxed W3 w.heap.size 38 (.pointer (some ⟨bs, 0, none⟩))) (h4 : Boxed W3 (w.heap.size + 1) 4 (.bool false)) (h5 : Boxed W3 (w.heap.size + 2) 3 (.int .i64 (k : Int))) (hg : w.grownBy W1 (some bs)) :
    ownPostG B (KpX w.heap.size bs) (TkI w bs g cap ts k) (TkX w bs g cap ts k) pre W1 .normal a W3 :=
  ⟨KeepsFrom.of_grownBy hg3 (fun j e => by injection e with e; omega), KpX.grown hg3 hl, k2, h1, h2, h3, h4, h5, grown_trans hg hg3⟩
theorem tk_stop {w W1 W2 : World} {B bs g cap k k' : Nat} {ts : List Tok} {pre : List (List UInt8)} {a : Act} (o : Obj) (hg2 : W1.grownBy W2 (some bs)) (hbs : bs < w.heap.size) (hB : w.heap.size + 2 < B) (hk : k < ts.length) (hg' : g < w.heap.size) (h1 : takeK ts k pre = none) (h2 : Strm W2 bs g cap ts k')
    (h4 : Boxed W2 (w.heap.size + 1) 4 (.bool false)) (hg : w.grownBy W1 (some bs)) :
    ownPostG B (KpX w.heap.size bs) (TkI w bs g cap ts k) (TkX w bs g cap ts k) pre W1 .ret a (((W2.setCell ⟨bs, 1, none⟩ (.int .i64 (k : Int))).setCell ⟨w.heap.size + 1, 0, none⟩ (.bool false)).alloc o) := by
  refine ⟨(KeepsFrom.of_grownBy hg2 (fun j e => by injection e with e; omega)).trans ((KeepsFrom.of_grownBy (grown_set _ _ _) (fun j e => by injection e with e; omega)).trans ((KeepsFrom.of_grownBy (grown_set _ _ _) (fun j e => by injection e with e; omega)).trans (KeepsFrom.of_grownBy (World.grownBy_alloc _ _ none) (fun j e => by cases e)))), rfl, h1, ?_, ?_, ?_⟩
  · have s1 := h2.turn k hk
    exact (s1.keep (heap_set_other _ ⟨w.heap.size + 1, 0, none⟩ _ _ (by simp; omega)) (heap_set_other _ ⟨w.heap.size + 1, 0, none⟩ _ _ (by simp; omega))).bl ((Bl.refl _).alloc _)
  · refine Boxed.alloc ?_ o
    have : Boxed (W2.setCell ⟨bs, 1, none⟩ (.int .i64 (k : Int))) (w.heap.size + 1) 4 (.bool false) := h4.kept (grown_set _ _ _) (by simp; omega)
    exact this.set _
  · exact grown_alloc (grown_newset (grown_trans (grown_trans hg hg2) (grown_set _ _ _)) 0 (by omega) _) o
theorem take_leave {w W : World} {D bs g cap k : Nat} {ts : List Tok} {xs : List (List UInt8)} {a : Act} {v : Bool} {k2 : Nat} (hD : w.heap.size + 4 ≤ D) (hbs : bs < w.heap.size) (hgl : g < w.heap.size) (ht : a.tmps[4]? = some (.pointer (some ⟨w.heap.size + 1, 0, none⟩))) (hd : a.defers = [{ target := .collected D, args := #[] }])
    (hK : W.heap[D]? = some (.deferred (some []))) (h1 : Boxed W (w.heap.size + 1) 4 (.bool v)) (hs : Strm W bs g cap ts k2) (hg : w.grownBy W (some bs)) (hv : (v = true ∧ takeK ts k xs = some k2) ∨ (v = false ∧ takeK ts k xs = none ∧ k2 = k)) :
    bodyPostM Fence.wide 5 Tryz.prog Tryz.f17 (TakePost w bs g cap ts k xs) .ret a W := by
  obtain ⟨tm, df⟩ := a
  simp only at ht hd
  subst hd
  refine ⟨by simp, .inl ⟨_, _, rfl, run_takeDeferred hK, ?_⟩⟩
  have hgp := grownBy_putObj' W D (.deferred none)
  have c := (h1.kept hgp (by simp; omega)).cell
  refine ⟨.bool v, by simp [results, Tryz.results17, go_sem, ht, c], grown_far hg hgp (by omega), ?_⟩
  have hs' := hs.grownBy hgp (by simp; omega) (by simp; omega)
  rcases hv with ⟨rfl, h⟩ | ⟨rfl, h, rfl⟩
  · exact .inl ⟨_, h, rfl, hs'⟩
  · exact .inr ⟨h, rfl, hs'⟩

set_option maxRecDepth 100000 in
set_option maxHeartbeats 4000000 in
theorem tTake_any {W : World} {bs g cap k : Nat} {ts : List Tok} (h : Strm W bs g cap ts k) (sv : Value) (xs : List (List UInt8)) (hxs : StrsX W.heap.size bs W sv xs) (hm : xs.length ≤ 1000000) :
    Calls Tryz.prog 17 #[.pointer (some ⟨bs, 0, none⟩), sv] W (TakePost W bs g cap ts k xs) := by
  refine (callsIn_wide (n := 5)).1 ?_
  have hbl : bs < W.heap.size := (Array.getElem?_eq_some_iff.1 h.own).1
  have hgl : g < W.heap.size := World.block_lt_of_cell? _ _ (h.row k h.lt).1
  have H := Lib.hid h
  have HX := Lib.hid hxs
  obtain ⟨a, cx, rfl⟩ : ∃ a cx, sv = .slice a xs.length cx := by
    obtain ⟨a, cx, rfl, _⟩ := hxs
    exact ⟨_, _, rfl⟩
  clear h hxs
  refine callsIn_of_wp_marks Tryz.func17 rfl trivial ?_ rfl
  simp only [Tryz.ntmps17, List.size_toArray, List.length_cons, List.length_nil, Nat.reduceAdd, Nat.reduceSub, Array.replicate_succ, Array.replicate_zero, List.push_toArray, List.append_toArray, List.nil_append, List.cons_append]
  have hB0 : Bl W ((W.alloc (.cells #[.pointer (some ⟨bs, 0, none⟩)] 38)).alloc (.cells #[.bool false] 4)) := ((Bl.refl W).alloc _).alloc _
  gi_wp2_with fail
  refine ⟨trivial, ?_⟩
  refine (callsIn_wide.2 (tnone_no (H.out.bl hB0))).mono ?_
  rintro e w' ⟨rfl, rfl⟩
  gi_wp2_with fail
  refine ⟨trivial, ?_⟩
  refine (callsIn_wide.2 (tnow_any (H.out.bl hB0))).mono ?_
  rintro e w' ⟨rfl, rfl⟩
  gi_wp2_with fail
  refine ⟨trivial, ?_⟩
  refine (valuesS_in Fence.wide 4 trivial rfl _ _ _ _).mono ?_
  rintro e w' ⟨rfl, rfl⟩
  gi_wp2_with fail
  have b0 := Boxed.new W 38 (.pointer (some ⟨bs, 0, none⟩))
  have b1 := Boxed.new (W.alloc (.cells #[.pointer (some ⟨bs, 0, none⟩)] 38)) 4 (.bool false)
  have b2 := Boxed.new ((W.alloc (.cells #[.pointer (some ⟨bs, 0, none⟩)] 38)).alloc (.cells #[.bool false] 4)) 3 (.int .i64 (k : Int))
  have b3 := Boxed.new (((W.alloc (.cells #[.pointer (some ⟨bs, 0, none⟩)] 38)).alloc (.cells #[.bool false] 4)).alloc (.cells #[.int .i64 (k : Int)] 3)) 45 (.slice a xs.length cx)
  simp only [World.size_alloc] at b1 b2 b3
  have hB4 : Bl W ((((W.alloc (.cells #[.pointer (some ⟨bs, 0, none⟩)] 38)).alloc (.cells #[.bool false] 4)).alloc (.cells #[.int .i64 (k : Int)] 3)).alloc (.cells #[.slice a xs.length cx] 45)) := (hB0.alloc _).alloc _
  have hX4 := HX.out.keep (fun i hi _ => hB4.block i hi)
  have hI0 : TkI W bs g cap ts k [] ((((W.alloc (.cells #[.pointer (some ⟨bs, 0, none⟩)] 38)).alloc (.cells #[.bool false] 4)).alloc (.cells #[.int .i64 (k : Int)] 3)).alloc (.cells #[.slice a xs.length cx] 45)) :=
    ⟨k, rfl, H.out.bl hB4, ((b0.alloc _).alloc _).alloc _, (b1.alloc _).alloc _, b2.alloc _, grown_bl hB4 _⟩
  have hsz : ((((W.alloc (.cells #[.pointer (some ⟨bs, 0, none⟩)] 38)).alloc (.cells #[.bool false] 4)).alloc (.cells #[.int .i64 (k : Int)] 3)).alloc (.cells #[.slice a xs.length cx] 45)).heap.size = W.heap.size + 4 := by simp
  clear b0 b1 b2 hB0 hB4
  generalize (((W.alloc (.cells #[.pointer (some ⟨bs, 0, none⟩)] 38)).alloc (.cells #[.bool false] 4)).alloc (.cells #[.int .i64 (k : Int)] 3)).alloc (.cells #[.slice a xs.length cx] 45) = W4 at *
  have HSZ := Lib.hid hsz
  refine wpIn_rangeFunc_ownG rfl (by omega) (gf := 43) (lb := #[.pointer (some ⟨W.heap.size + 1 + 1 + 1, 0, none⟩)]) rfl trivial (enters_of Tryz.func43 (by kernel_rfl) rfl)
    (valuesS_stops Fence.wide (5 - 1) trivial rfl (by omega) (W.heap.size + 1 + 1 + 1) W.heap.size bs _ xs hm W4 (by omega) (by omega) b3.cell hX4) KpX.trans (kpX_b (by omega)) (Below.refl _ _) (fun _ => rfl)
    (TkI W bs g cap ts k) (TkX W bs g cap ts k) (tkI_own W _ bs g cap ts k (by omega) hbl hgl) (fun c => tkX_own W _ bs g cap ts k c (by omega) hbl hgl) hI0
    (fun x => { tmps := #[.pointer (some ⟨bs, 0, none⟩), .slice a xs.length cx, .pointer (some ⟨W.heap.size, 0, none⟩), undef, .pointer (some ⟨W.heap.size + 1, 0, none⟩), .pointer (some ⟨W.heap.size + 1 + 1, 0, none⟩), S x, undef, .pointer (some ⟨bs, 0, none⟩), .bool false, .pointer (some ⟨bs, 0, none⟩), .pointer (some ⟨bs, 0, none⟩), .pointer (some ⟨bs, 0, none⟩), .int .i64 (k : Int), .slice a xs.length cx, .func (.func 43) #[] #[.pointer (some ⟨W.heap.size + 1 + 1 + 1, 0, none⟩)], S x, undef, undef, undef, undef, undef, undef, undef, undef, undef, undef, undef, undef, undef, undef, undef, undef, undef, undef, undef, undef, undef], defers := [] }) ?assign ?body ?done ?stop
  case assign =>
    intro l x W1 K hK
    gi_wp2
    exact hK
  case body =>
    rintro l pre x W1 ⟨k', ht, hs, c0, c1, c2, hg⟩ _
    have HT := Lib.hid ht
    have HS := Lib.hid hs
    obtain ⟨y, hy⟩ : ∃ y, ts[k']? = some y := ⟨_, List.getElem?_eq_getElem hs.lt⟩
    have HY := Lib.hid hy
    have p0 := c0.cell
    have C1 := Lib.hid c1
    have C2 := Lib.hid c2
    have HG := Lib.hid hg
    have C0 := Lib.hid c0
    have hl1 := hg.4
    clear ht hs hy c1 c2 hg c0
    gi_wp2_with fail
    refine ⟨trivial, ?_⟩
    refine (CallsIn.inRound l (callsIn_wide.2 (tNext_any HS.out HY.out))).mono ?_
    rintro e W2 ⟨rfl, hg2, hs2⟩
    have c0' := C0.out.kept hg2 (by simp; omega)
    have c1' := Lib.hid (C1.out.kept hg2 (by simp; omega))
    have c2' := C2.out.kept hg2 (by simp; omega)
    have p0' := c0'.cell
    have p2' := c2'.cell
    have HS2 := Lib.hid hs2
    have HG2 := Lib.hid hg2
    have HC0 := Lib.hid c0'
    have HC2 := Lib.hid c2'
    obtain ⟨s0, s1, z0, z1, hlt⟩ := cells2 hs2.own
    have c1b := c1'.out.cell
    have c1f := c1'.out.frozen
    have hl2 := hg2.4
    have hst : W.heap.size + 2 < W2.heap.size := HC2.out.lt
    clear c0' c2' hs2 hg2
    obtain ⟨yk, yp, yt, ya, yb, yc⟩ := y
    have key : Hid (isB ⟨yk, yp, yt, (ya, yb, yc)⟩ x = true ∧ takeK ts k (pre ++ [x]) = some (nextK ts.length k') ∨ isB ⟨yk, yp, yt, (ya, yb, yc)⟩ x = false ∧ takeK ts k (pre ++ [x]) = none) := by
      show _ ∨ _
      rw [takeK_app, HT.out, Option.bind_some, takeK_cons HY.out]
      cases isB ⟨yk, yp, yt, (ya, yb, yc)⟩ x <;> simp [takeK]
    have hG3 := Lib.hid (grown_trans HG2.out (grown_alloc (grown_bl (Bl.refl W2) (some bs)) (.cells #[.int .i64 yk, .int .i64 (yp : Int), S yt, .int .i64 ya, .int .i64 yb, S yc] 34)))
    have HKL := Lib.hid H.out.lt
    have q0 : W.heap.size < W2.heap.size := by omega
    have q1 : W.heap.size + 1 < W2.heap.size := by omega
    cases he : (yt == x)
    · have hne : (yt != x) = true := by simp [bne, he]
      have HK : Hid (takeK ts k (pre ++ [x]) = none) := by
        rcases key.out with ⟨h, _⟩ | ⟨_, h⟩
        · simp [isB, he] at h
        · exact h
      gi_wp2
      exact tk_stop _ HG2.out hbl (by have := HSZ.out; omega) HKL.out hgl HK.out HS2.out c1'.out HG.out
    · have hne : (yt != x) = false := by simp [bne, he]
      by_cases hk1 : yk = 1
      · subst hk1
        have HK : Hid (takeK ts k (pre ++ [x]) = some (nextK ts.length k')) := by
          rcases key.out with ⟨_, h⟩ | ⟨h, _⟩
          · exact h
          · simp [isB, he] at h
        gi_wp2
        exact tk_go hG3.out (by have := HSZ.out; omega) hl1 HK.out (HS2.out.bl ((Bl.refl W2).alloc _)) (HC0.out.alloc _) (c1'.out.alloc _) (HC2.out.alloc _) HG.out
      by_cases hk3 : yk = 3
      · subst hk3
        have HK : Hid (takeK ts k (pre ++ [x]) = some (nextK ts.length k')) := by
          rcases key.out with ⟨_, h⟩ | ⟨h, _⟩
          · exact h
          · simp [isB, he] at h
        gi_wp2
        exact tk_go hG3.out (by have := HSZ.out; omega) hl1 HK.out (HS2.out.bl ((Bl.refl W2).alloc _)) (HC0.out.alloc _) (c1'.out.alloc _) (HC2.out.alloc _) HG.out
      have b1 : (yk == 1) = false := by simpa using hk1
      have b3 : (yk == 3) = false := by simpa using hk3
      have n1 : (yk != 1) = true := by simpa using hk1
      have n3 : (yk != 3) = true := by simpa using hk3
      have HK : Hid (takeK ts k (pre ++ [x]) = none) := by
        rcases key.out with ⟨h, _⟩ | ⟨_, h⟩
        · simp [isB, b1, b3] at h
        · exact h
      clear hk1 hk3
      gi_wp2
      exact tk_stop _ HG2.out hbl (by have := HSZ.out; omega) HKL.out hgl HK.out HS2.out c1'.out HG.out
  case done =>
    rintro D ys W1 hD rfl ⟨k', ht, hs, c0, c1, c2, hg⟩ hK
    have p1 := c1.cell
    have f1 := c1.frozen
    have hs' : Strm (W1.setCell ⟨W.heap.size + 1, 0, none⟩ (.bool true)) bs g cap ts k' := hs.keep (heap_set_other _ ⟨W.heap.size + 1, 0, none⟩ _ _ (by simp; omega)) (heap_set_other _ ⟨W.heap.size + 1, 0, none⟩ _ _ (by simp; omega))
    have hD' : (W1.setCell ⟨W.heap.size + 1, 0, none⟩ (.bool true)).heap[D]? = some (.deferred (some [])) := (heap_set_other _ ⟨W.heap.size + 1, 0, none⟩ _ _ (by simp; omega)).trans hK
    have hg' := grown_newset hg (b := W.heap.size + 1) 0 (by omega) (.bool true)
    have HC1 := Lib.hid (c1.set (.bool true))
    have HH := Lib.hid (And.intro hs' (And.intro hD' (And.intro hg' ht)))
    clear hs' hD' hg' ht hs c0 c1 c2 hg hK
    gi_wp2
    exact take_leave (by omega) hbl hgl rfl rfl HH.out.2.1 HC1.out HH.out.1 HH.out.2.2.1 (.inl ⟨rfl, HH.out.2.2.2⟩)
  case stop =>
    rintro D c pre W1 hD hpre ⟨rfl, ht, hs, c1, hg⟩ hK
    have ht2 : takeK ts k xs = none := by
      obtain ⟨r, rfl⟩ := hpre
      rw [takeK_app, ht]; rfl
    have HH := Lib.hid (And.intro hs (And.intro hK (And.intro hg (And.intro ht2 c1))))
    clear ht hs c1 hg hK ht2
    gi_wp2
    exact take_leave (by omega) hbl hgl rfl rfl HH.out.2.1 HH.out.2.2.2.2 HH.out.1 HH.out.2.2.1 (.inr ⟨rfl, HH.out.2.2.2.1, rfl⟩)

set_option maxRecDepth 100000 in
set_option maxHeartbeats 1000000 in
theorem tTake_none {W : World} {p : Option Addr} (h : NoStr W p) (a : Option Addr) (n c : Nat) : Calls Tryz.prog 17 #[.pointer p, .slice a n c] W fun e w' => e = .returned (.bool false) ∧ Bl W w' := by
  refine (callsIn_wide (n := 5)).1 ?_
  have H := Lib.hid h
  clear h
  refine callsIn_of_wp_marks Tryz.func17 rfl trivial ?_ rfl
  simp only [Tryz.ntmps17, List.size_toArray, List.length_cons, List.length_nil, Nat.reduceAdd, Nat.reduceSub, Array.replicate_succ, Array.replicate_zero, List.push_toArray, List.append_toArray, List.nil_append, List.cons_append]
  have hB0 : Bl W ((W.alloc (.cells #[.pointer p] 38)).alloc (.cells #[.bool false] 4)) := ((Bl.refl W).alloc _).alloc _
  gi_wp2_with fail
  refine ⟨trivial, ?_⟩
  refine (callsIn_wide.2 (tnone_yes (H.out.bl hB0))).mono ?_
  rintro e w' ⟨rfl, rfl⟩
  gi_wp2
  exact ⟨.bool false, by simp [results, Tryz.results17, go_sem], rfl, hB0⟩

end Go.Proofs.YtdhaddldmooniaaGreatDoor
