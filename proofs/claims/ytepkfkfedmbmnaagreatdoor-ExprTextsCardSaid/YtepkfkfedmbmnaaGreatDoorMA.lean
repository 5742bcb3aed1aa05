/- What a reader of the program comes to. The program's reader: Take and Name at what is to be read; of, deeper. The program's taken. The program's several. -/
import Derived.Test.YtepkfkfedmbmnaaGreatDoorMH
import Derived.Test.YtepkfkfedmbmnaaGreatDoorMC0
import Derived.Test.YtepkfkfedmbmnaaGreatDoorEC
import Derived.Test.YtepkfkfedmbmnaaGreatDoorMQ
namespace Go.Proofs.YtepkfkfedmbmnaaGreatDoor
open Go.RowKit
set_option maxRecDepth 100000

/-- A reader of the stream in block bs. -/
abbrev RV (bs : Nat) : Value := .agg #[.pointer (some ⟨bs, 0, none⟩)]
/-- It is given up with an error. -/
abbrev Pan (c : Int) : Ending := .panicked [{ v := .iface 31 (.int .i64 c), recovered := false }]
/-- What a reader comes to, by what is to be read. -/
def XPost (bs g cap : Nat) (ts : List Tok) (W : World) (r : Res) (e : Ending) (w' : World) : Prop :=
  W.grownBy w' (some bs) ∧ ∃ k', Strm w' bs g cap ts k' ∧ ((∃ x v, r = .good k' x ∧ ReadsX W.heap.size w' x v ∧ e = .returned v) ∨ (∃ c, (c = 260 ∨ c = 261) ∧ r = .bad c ∧ e = Pan c))
theorem grown_size {A B : World} {r : Option Nat} (h : A.grownBy B r) : A.heap.size ≤ B.heap.size := h.4
theorem XPost.from {bs g cap : Nat} {ts : List Tok} {W0 W : World} {r : Res} {e : Ending} {w' : World} (hb : W0.grownBy W (some bs)) (h : XPost bs g cap ts W r e w') : XPost bs g cap ts W0 r e w' := by
  obtain ⟨h1, k', h2, h3⟩ := h
  refine ⟨grown_trans hb h1, k', h2, ?_⟩
  rcases h3 with ⟨x, v, e1, e2, e3⟩ | h3
  · exact .inl ⟨x, v, e1, e2.low (grown_size hb), e3⟩
  · exact .inr h3
theorem ReadsP.grown {p : Nat → Prop} {bs : Nat} {A B : World} {sv : Value} {l : List Ex} (h : ReadsP p A sv l) (hg : A.grownBy B (some bs)) (hb : ¬ p bs) : ReadsP p B sv l :=
  h.keep (fun _ h => h) fun b hp hl => hg.block b hl (fun e => by injection e with e; subst e; exact hb hp)
theorem ReadsXP.grown {p : Nat → Prop} {bs : Nat} {A B : World} {x : Ex} {v : Value} (h : ReadsXP p A x v) (hg : A.grownBy B (some bs)) (hb : ¬ p bs) : ReadsXP p B x v := by
  obtain ⟨sv, e, h⟩ := h
  exact ⟨sv, e, h.grown hg hb⟩
/-- It ends with an error. -/
theorem XPost.no {bs g cap : Nat} {ts : List Tok} {W : World} {r : Res} {w' : World} {k' : Nat} {c : Int} (hg : W.grownBy w' (some bs)) (hs : Strm w' bs g cap ts k') (hc : c = 260 ∨ c = 261) (hr : r = .bad c) : XPost bs g cap ts W r (Pan c) w' :=
  ⟨hg, k', hs, .inr ⟨c, hc, hr, rfl⟩⟩
theorem XPost.yes {bs g cap : Nat} {ts : List Tok} {W : World} {r : Res} {w' : World} {k' : Nat} {x : Ex} {v : Value} (hg : W.grownBy w' (some bs)) (hs : Strm w' bs g cap ts k') (hr : r = .good k' x) (hx : ReadsX W.heap.size w' x v) : XPost bs g cap ts W r (.returned v) w' :=
  ⟨hg, k', hs, .inl ⟨x, v, hr, hx, rfl⟩⟩

/-- The reader of a level. -/
def rdF (n : Nat) : FuncId := match n with
  | 0 => 58
  | 1 => 59
  | 2 => 60
  | 3 => 61
  | 4 => 62
  | 5 => 63
  | 6 => 92
  | _ => 120
/-- The program reads so many steps of a level. -/
def RdP (f n : Nat) : Prop := ∀ (W : World) (bs g cap : Nat) (ts : List Tok) (k d : Nat) (d' : Int), d' = d → Strm W bs g cap ts k → TokOK ts → d ≤ 60 → runR ts f (.rd n k d) ≠ .out →
  Calls Tryz.prog (rdF n) #[RV bs, .int .i64 d'] W (XPost bs g cap ts W (runR ts f (.rd n k d)))
def AllP (f : Nat) : Prop := ∀ n, n ≤ 7 → RdP f n
/-- The operator that comes next. -/
def TakenPost (W : World) (bs g cap : Nat) (ts : List Tok) (k : Nat) (l : List Int) (e : Ending) (w' : World) : Prop :=
  W.grownBy w' (some bs) ∧ ((∃ o k', takenK ts k l = some (o, k') ∧ e = .returned (.tuple #[.int .i64 o, .bool true]) ∧ Strm w' bs g cap ts k') ∨ (takenK ts k l = none ∧ e = .returned (.tuple #[.int .i64 0, .bool false]) ∧ Strm w' bs g cap ts k))
/-- Numbers in memory, not in block x. -/
def IntsN (x : Nat) (W : World) (sv : Value) (l : List Int) : Prop := ∃ b off cap, sv = .slice (some ⟨b, off, none⟩) l.length cap ∧ b ≠ x ∧ b < W.heap.size ∧ ∀ j (h : j < l.length), W.cell? ⟨b, off + j, none⟩ = some (.int .i64 l[j])
theorem IntsN.grown {x : Nat} {A B : World} {sv : Value} {l : List Int} (h : IntsN x A sv l) (hg : A.grownBy B (some x)) : IntsN x B sv l := by
  obtain ⟨b, off, cap, e, hb, hl, hc⟩ := h
  refine ⟨b, off, cap, e, hb, Nat.lt_of_lt_of_le hl hg.4, fun j hj => ?_⟩
  rw [World.cell?_of_block (w := A) (hg.block b hl (fun e => by injection e with e; exact hb e))]
  exact hc j hj
theorem IntsN.bl {x : Nat} {A B : World} {sv : Value} {l : List Int} (h : IntsN x A sv l) (hg : Bl A B) : IntsN x B sv l := h.grown (grown_bl hg _)

end Go.Proofs.YtepkfkfedmbmnaaGreatDoor

namespace Go.Proofs.YtepkfkfedmbmnaaGreatDoor
open Go.RowKit
set_option maxRecDepth 100000

theorem strsX_block {W : World} {b n₀ x : Nat} {xs : List (List UInt8)} {t : TypeId} (h : W.heap[b]? = some (.cells (xs.map fun s => S s).toArray t (0, 0))) (hb : b < n₀) (hx : b ≠ x) : StrsX n₀ x W (.slice (some ⟨b, 0, none⟩) xs.length xs.length) xs := by
  refine ⟨_, xs.length, rfl, fun j hj => ⟨b, 0, rfl, hb, hx, ?_⟩⟩
  rw [Lib.cell_of_heap h]
  simp [hj]
theorem Strm.lt' {W : World} {bs g cap k : Nat} {ts : List Tok} (h : Strm W bs g cap ts k) : bs < W.heap.size := (Array.getElem?_eq_some_iff.1 h.own).1
theorem etake_new {W : World} {bs g cap k : Nat} {ts : List Tok} (h : Strm W bs g cap ts k) (xs : List (List UInt8)) (cs : Array Value) (n b : Nat) (t : TypeId) (hcs : cs = (xs.map fun s => S s).toArray) (hn : n = xs.length) (hm : xs.length ≤ 1000000) (hb : b = W.heap.size) :
    Calls Tryz.prog 88 #[.pointer (some ⟨bs, 0, none⟩), .slice (some ⟨b, 0, none⟩) n n] (W.alloc (.cells cs t)) (TakePost W bs g cap ts k xs) := by
  subst hcs
  subst hn
  subst hb
  have hbl := h.lt'
  refine (tTake_any (h.bl ((Bl.refl W).alloc _)) _ xs (strsX_block (heap_new W _) (by simp) (by omega)) hm).mono ?_
  rintro e w' ⟨hg, hh⟩
  exact ⟨grown_trans (grown_bl ((Bl.refl W).alloc _) _) hg, hh⟩
theorem etake_yes {W : World} {bs g cap k k' : Nat} {ts : List Tok} (h : Strm W bs g cap ts k) (xs : List (List UInt8)) (ht : takeK ts k xs = some k') (cs : Array Value) (n b : Nat) (t : TypeId) (hcs : cs = (xs.map fun s => S s).toArray) (hn : n = xs.length) (hm : xs.length ≤ 1000000) (hb : b = W.heap.size) :
    Calls Tryz.prog 88 #[.pointer (some ⟨bs, 0, none⟩), .slice (some ⟨b, 0, none⟩) n n] (W.alloc (.cells cs t)) fun e w' => e = .returned (.bool true) ∧ W.grownBy w' (some bs) ∧ Strm w' bs g cap ts k' := by
  refine (etake_new h xs cs n b t hcs hn hm hb).mono ?_
  rintro e w' ⟨hg, (⟨k2, h1, rfl, hs⟩ | ⟨h1, rfl, hs⟩)⟩
  · rw [ht] at h1
    injection h1 with h1
    subst h1
    exact ⟨rfl, hg, hs⟩
  · rw [ht] at h1
    cases h1
theorem etake_no {W : World} {bs g cap k : Nat} {ts : List Tok} (h : Strm W bs g cap ts k) (xs : List (List UInt8)) (ht : takeK ts k xs = none) (cs : Array Value) (n b : Nat) (t : TypeId) (hcs : cs = (xs.map fun s => S s).toArray) (hn : n = xs.length) (hm : xs.length ≤ 1000000) (hb : b = W.heap.size) :
    Calls Tryz.prog 88 #[.pointer (some ⟨bs, 0, none⟩), .slice (some ⟨b, 0, none⟩) n n] (W.alloc (.cells cs t)) fun e w' => e = .returned (.bool false) ∧ W.grownBy w' (some bs) ∧ Strm w' bs g cap ts k := by
  refine (etake_new h xs cs n b t hcs hn hm hb).mono ?_
  rintro e w' ⟨hg, (⟨k2, h1, rfl, hs⟩ | ⟨h1, rfl, hs⟩)⟩
  · rw [ht] at h1
    cases h1
  · exact ⟨rfl, hg, hs⟩
theorem name_yes {W : World} {bs g cap k k' : Nat} {ts : List Tok} {n : List UInt8} (h : Strm W bs g cap ts k) (hn : nameK ts k = some (n, k')) : Calls Tryz.prog 110 #[.pointer (some ⟨bs, 0, none⟩)] W fun e w' => e = .returned (.tuple #[S n, .bool true]) ∧ W.grownBy w' (some bs) ∧ Strm w' bs g cap ts k' := by
  unfold nameK at hn
  cases hx : ts[k]? with
  | none => rw [hx] at hn; cases hn
  | some x =>
    rw [hx] at hn
    simp only at hn
    split at hn
    · rename_i hi
      injection hn with hn
      injection hn with h1 h2
      subst h1
      subst h2
      refine (tName_any h hx).mono ?_
      rintro e w' ⟨hg, (⟨h1, rfl, hs⟩ | ⟨h1, rfl, hs⟩)⟩
      · exact ⟨rfl, hg, hs⟩
      · rw [hi] at h1; cases h1
    · cases hn
theorem name_no {W : World} {bs g cap k : Nat} {ts : List Tok} (h : Strm W bs g cap ts k) (hn : nameK ts k = none) : Calls Tryz.prog 110 #[.pointer (some ⟨bs, 0, none⟩)] W fun e w' => e = .returned (.tuple #[S [], .bool false]) ∧ W.grownBy w' (some bs) ∧ Strm w' bs g cap ts k := by
  unfold nameK at hn
  have hx : ts[k]? = some (ts[k]'h.lt) := List.getElem?_eq_getElem h.lt
  rw [hx] at hn
  simp only at hn
  split at hn
  · cases hn
  · rename_i hi
    refine (tName_any h hx).mono ?_
    rintro e w' ⟨hg, (⟨h1, rfl, hs⟩ | ⟨h1, rfl, hs⟩)⟩
    · rw [h1] at hi; exact absurd rfl hi
    · exact ⟨rfl, hg, hs⟩

theorem eof_any (o : Int) (a : Option Addr) (n c : Nat) (w : World) : Calls Tryz.prog 89 #[.int .i64 o, .slice a n c] w fun e w' => e = .returned (EV 3 (0, 0, []) [] [] o (.slice a n c)) ∧ Bl w w' := by
  go_enter Tryz.func89, Tryz.ntmps89
  go_wp2
  exact bodyPost_ret (v := EV 3 (0, 0, []) [] [] o (.slice a n c)) (by simp [results, Tryz.results89, go_sem]) rfl ⟨rfl, (Bl.refl w).alloc _⟩
theorem enters_rdF (n : Nat) (args : Array Value) (w : World) : (callFunc (rdF n) args).run Tryz.prog w = .ok (.enter (rdF n) args) w := by
  unfold rdF
  split <;> simp [go_sem]
/-- What is read, as the walk wants it. -/
theorem XPost.open {bs g cap : Nat} {ts : List Tok} {W : World} {r : Res} {e : Ending} {w' : World} (h : XPost bs g cap ts W r e w') :
    W.grownBy w' (some bs) ∧ ∃ k', Strm w' bs g cap ts k' ∧ ((∃ xk x1 x2 x3 xt xn xo xa asv csv, r = .good k' (.mk xk (x1, x2, x3) xt xn xo xa) ∧ ReadsA W.heap.size w' (.slice asv xa.length csv) xa ∧ e = .returned (EV xk (x1, x2, x3) xt xn xo (.slice asv xa.length csv))) ∨ (∃ c, (c = 260 ∨ c = 261) ∧ r = .bad c ∧ e = Pan c)) := by
  obtain ⟨hg, k', hs, h⟩ := h
  refine ⟨hg, k', hs, ?_⟩
  rcases h with ⟨x, v, hr, ⟨sv, rfl, hA⟩, rfl⟩ | h
  · obtain ⟨asv, csv, rfl⟩ := hA.shape
    obtain ⟨xk, ⟨x1, x2, x3⟩, xt, xn, xo, xa⟩ := x
    exact .inl ⟨xk, x1, x2, x3, xt, xn, xo, xa, asv, csv, hr, hA, rfl⟩
  · exact .inr h

end Go.Proofs.YtepkfkfedmbmnaaGreatDoor

namespace Go.Proofs.YtepkfkfedmbmnaaGreatDoor
open Go.RowKit
set_option maxRecDepth 100000

--BEGIN1
set_option maxHeartbeats 4000000 in
theorem etaken_any {W : World} {bs g cap k : Nat} {ts : List Tok} (h' : Strm W bs g cap ts k) {sv : Value} {l : List Int} (hI : IntsN bs W sv l) (hl : l.length ≤ 10) (ho : ∀ o ∈ l, 1 ≤ o ∧ o ≤ 20) :
    Calls Tryz.prog 91 #[RV bs, sv] W (TakenPost W bs g cap ts k l) := by
  have H := Lib.hid h'
  have HI := Lib.hid hI
  have HO := Lib.hid ho
  obtain ⟨b, off, capl, rfl, -, -, -⟩ := hI
  clear ho
  have hbl := h'.lt'
  have hB0 := heap_new W (.cells #[.pointer (some ⟨bs, 0, none⟩)] 80)
  clear h'
  go_enter Tryz.func91, Tryz.ntmps91
  go_wp2_with fail
  go_loopw [12] (fun i wr => ∃ j : Nat, j ≤ l.length ∧ i = .int .i64 (j : Int) ∧ Hid (takenK ts k l = takenK ts k (l.drop j)) ∧ Hid ((W.alloc (.cells #[.pointer (some ⟨bs, 0, none⟩)] 80)).grownBy wr (some bs)) ∧ Hid (Strm wr bs g cap ts k)) (fun i _ => l.length - (intOf i).toNat)
  case atStart => exact ⟨0, Nat.zero_le _, rfl, rfl, grown_bl (Bl.refl _) _, H.out.bl ((Bl.refl W).alloc _)⟩
  case round =>
    obtain ⟨j, hj, rfl, HD, HG, HS⟩ := hrel
    have hB1 := (HG.out.block _ (by simp) (by simp; omega)).trans hB0
    have HGW := Lib.hid (grown_trans (grown_bl ((Bl.refl W).alloc _) (some bs)) HG.out)
    by_cases hlt : j < l.length
    · have HDj := Lib.hid (taken_drop (ts := ts) (k := k) hlt)
      obtain ⟨b', off', capl', ea, hb', hl', hc⟩ := HI.out.grown HGW.out
      obtain ⟨⟨rfl, rfl⟩, rfl⟩ : (b = b' ∧ off = off') ∧ capl = capl' := by simpa using ea
      have c := hc j hlt
      have hO := HO.out _ (List.getElem_mem hlt)
      clear hc ea
      generalize hy : l[j] = y at *
      clear hy
      go_wp2_with fail
      (with_reducible refine (sInfo_in y hO _).mono ?_)
      rintro e w1 ⟨rfl, hb1⟩
      have HS1 := Lib.hid (HS.out.bl hb1)
      have HG3 := Lib.hid (grown_trans (grown_trans HG.out (grown_bl hb1 (some bs))) (grown_bl ((Bl.refl w1).alloc (.cells #[S (opName y), .int .i64 (opMany y : Int), .int .i64 (opOf y), .int .i64 (opMakes y)] 88)) (some bs)))
      have hB2 := (hb1.block _ (Array.getElem?_eq_some_iff.1 hB1).1).trans hB1
      have p0 : w1.cell? ⟨W.heap.size, 0, none⟩ = some (.pointer (some ⟨bs, 0, none⟩)) := by rw [Lib.cell_of_heap hB2]; rfl
      have hlw := (Array.getElem?_eq_some_iff.1 hB2).1
      have HS2 := Lib.hid (HS1.out.bl ((Bl.refl w1).alloc (.cells #[S (opName y), .int .i64 (opMany y : Int), .int .i64 (opOf y), .int .i64 (opMakes y)] 88)))
      have HG2 := Lib.hid (grown_trans (grown_trans HGW.out (grown_bl hb1 (some bs))) (grown_bl ((Bl.refl w1).alloc (.cells #[S (opName y), .int .i64 (opMany y : Int), .int .i64 (opOf y), .int .i64 (opMakes y)] 88)) (some bs)))
      cases ht : takeK ts k [opName y] with
      | some k' =>
        have HT := Lib.hid ht
        have HE : Hid (takenK ts k l = some (y, k')) := by
          show _ = _
          rw [HD.out, HDj.out, ht]
        clear ht
        go_wp2_with fail
        refine (etake_yes HS2.out [opName y] HT.out _ 1 _ _ rfl rfl (by simp) (by simp)).mono ?_
        rintro e w2 ⟨rfl, hg2, hs2⟩
        go_wp2
        refine bodyPost_ret (v := .tuple #[.int .i64 y, .bool true]) (by simp [results, Tryz.results91, go_sem]) rfl ⟨grown_trans HG2.out hg2, .inl ⟨y, k', HE.out, rfl, hs2⟩⟩
      | none =>
        have HT := Lib.hid ht
        have HDD : Hid (takenK ts k l = takenK ts k (l.drop (j + 1))) := by
          show _ = _
          rw [HD.out, HDj.out, ht]
        clear ht
        go_wp2_with fail
        refine (etake_no HS2.out [opName y] HT.out _ 1 _ _ rfl rfl (by simp) (by simp)).mono ?_
        rintro e w2 ⟨rfl, hg2, hs2⟩
        go_wp2
        go_roundw
        case rel => exact ⟨j + 1, by omega, by go_num, HDD.out, grown_trans HG3.out hg2, hs2⟩
        case measure => simp [intOf]; omega
    · obtain rfl : j = l.length := by omega
      have HE : Hid (takenK ts k l = none) := by
        show _ = _
        rw [HD.out, List.drop_length]
        rfl
      go_wp2
      exact bodyPost_ret (v := .tuple #[.int .i64 0, .bool false]) (by simp [results, Tryz.results91, go_sem]) rfl ⟨HGW.out, .inr ⟨HE.out, rfl, HS.out⟩⟩
--END1

end Go.Proofs.YtepkfkfedmbmnaaGreatDoor

namespace Go.Proofs.YtepkfkfedmbmnaaGreatDoor
open Go.RowKit
set_option maxRecDepth 100000

theorem natAt_strm {W : World} {bs g cap k : Nat} {ts : List Tok} (h : Strm W bs g cap ts k) : natAt W bs = k := natAt_of h.own
theorem grown_set8 {A B : World} {r : Option Nat} (h : A.grownBy B r) {b : Nat} (hb : A.heap.size ≤ b) (y0 y1 y2 y3 y4 y5 y6 y7 : Value) : A.grownBy (set8 B b y0 y1 y2 y3 y4 y5 y6 y7) r :=
  grown_newset (grown_newset (grown_newset (grown_newset (grown_newset (grown_newset (grown_newset (grown_newset h 0 hb _) 1 hb _) 2 hb _) 3 hb _) 4 hb _) 5 hb _) 6 hb _) 7 hb _
theorem Strm.set8 {W : World} {bs g cap k b : Nat} {ts : List Tok} (h : Strm W bs g cap ts k) (hb : bs ≠ b) (hg : g ≠ b) (y0 y1 y2 y3 y4 y5 y6 y7 : Value) : Strm (set8 W b y0 y1 y2 y3 y4 y5 y6 y7) bs g cap ts k :=
  h.keep (set8_other _ hb _ _ _ _ _ _ _ _) (set8_other _ hg _ _ _ _ _ _ _ _)
theorem Strm.gl {W : World} {bs g cap k : Nat} {ts : List Tok} (h : Strm W bs g cap ts k) : g < W.heap.size := World.block_lt_of_cell? _ _ (h.row k h.lt).1
theorem etaken_yes {W : World} {bs g cap k k' : Nat} {o : Int} {ts : List Tok} (h : Strm W bs g cap ts k) {sv : Value} {l : List Int} (hI : IntsN bs W sv l) (hl : l.length ≤ 10) (ho : ∀ o ∈ l, 1 ≤ o ∧ o ≤ 20) (ht : takenK ts k l = some (o, k')) :
    Calls Tryz.prog 91 #[RV bs, sv] W fun e w' => e = .returned (.tuple #[.int .i64 o, .bool true]) ∧ W.grownBy w' (some bs) ∧ Strm w' bs g cap ts k' := by
  refine (etaken_any h hI hl ho).mono ?_
  rintro e w' ⟨hg, (⟨o', k2, h1, rfl, hs⟩ | ⟨h1, rfl, hs⟩)⟩
  · rw [ht] at h1
    injection h1 with h1
    injection h1 with h1 h2
    subst h1
    subst h2
    exact ⟨rfl, hg, hs⟩
  · rw [ht] at h1
    cases h1
theorem etaken_no {W : World} {bs g cap k : Nat} {ts : List Tok} (h : Strm W bs g cap ts k) {sv : Value} {l : List Int} (hI : IntsN bs W sv l) (hl : l.length ≤ 10) (ho : ∀ o ∈ l, 1 ≤ o ∧ o ≤ 20) (ht : takenK ts k l = none) :
    Calls Tryz.prog 91 #[RV bs, sv] W fun e w' => e = .returned (.tuple #[.int .i64 0, .bool false]) ∧ W.grownBy w' (some bs) ∧ Strm w' bs g cap ts k := by
  refine (etaken_any h hI hl ho).mono ?_
  rintro e w' ⟨hg, (⟨o', k2, h1, rfl, hs⟩ | ⟨h1, rfl, hs⟩)⟩
  · rw [ht] at h1
    cases h1
  · exact ⟨rfl, hg, hs⟩
/-- A reader's frame: the reader, the answer's place. -/
structure FrP (W A : World) (bs : Nat) : Prop where
  grown : W.grownBy A (some bs)
  r : A.heap[W.heap.size]? = some (.cells #[.pointer (some ⟨bs, 0, none⟩)] 80 (0, 0))
  x : A.heap[W.heap.size + 1]? = some (.cells #[.int .i64 0, .int .i64 0, .int .i64 0, S [], S [], S [], .int .i64 0, .slice none 0 0] 30 (0, 0))
theorem FrP.next {W A B : World} {bs : Nat} (h : FrP W A bs) (hb : bs < W.heap.size) (hg : A.grownBy B (some bs)) : FrP W B bs :=
  ⟨grown_trans h.grown hg, (hg.block _ (Array.getElem?_eq_some_iff.1 h.r).1 (fun e => by injection e with e; omega)).trans h.r, (hg.block _ (Array.getElem?_eq_some_iff.1 h.x).1 (fun e => by injection e with e; omega)).trans h.x⟩
theorem FrP.bl {W A B : World} {bs : Nat} (h : FrP W A bs) (hb : Bl A B) : FrP W B bs :=
  ⟨grown_trans h.grown (grown_bl hb _), (hb.block _ (Array.getElem?_eq_some_iff.1 h.r).1).trans h.r, (hb.block _ (Array.getElem?_eq_some_iff.1 h.x).1).trans h.x⟩
theorem FrP.start (W : World) (bs : Nat) : FrP W ((W.alloc (.cells #[.pointer (some ⟨bs, 0, none⟩)] 80)).alloc (.cells #[.int .i64 0, .int .i64 0, .int .i64 0, S [], S [], S [], .int .i64 0, .slice none 0 0] 30)) bs :=
  ⟨grown_bl (((Bl.refl W).alloc _).alloc _) _, (heap_old _ _ (by simp)).trans (heap_new _ _), heap_new' _ _ (by simp)⟩
theorem FrP.size {W A : World} {bs : Nat} (h : FrP W A bs) : W.heap.size + 1 < A.heap.size := (Array.getElem?_eq_some_iff.1 h.x).1
theorem FrP.set8 {W A : World} {bs b : Nat} (h : FrP W A bs) (hb : W.heap.size + 1 < b) (y0 y1 y2 y3 y4 y5 y6 y7 : Value) : FrP W (set8 A b y0 y1 y2 y3 y4 y5 y6 y7) bs :=
  ⟨grown_set8 h.grown (by omega) _ _ _ _ _ _ _ _, (set8_other _ (by omega) _ _ _ _ _ _ _ _).trans h.r, (set8_other _ (by omega) _ _ _ _ _ _ _ _).trans h.x⟩
theorem cells1 {W : World} {b : Nat} {x : Value} {t : TypeId} (h : W.heap[b]? = some (.cells #[x] t (0, 0))) : W.cell? ⟨b, 0, none⟩ = some x := by rw [Lib.cell_of_heap h]; rfl
/-- What is answered lies in the answer's place. -/
theorem FrP.fin {W A : World} {bs g cap kk : Nat} {ts : List Tok} {R : Res} (h : FrP W A bs) (hb : bs < W.heap.size) (hgl : g < W.heap.size) (hs : Strm A bs g cap ts kk) {yk y1 y2 yo : Int} {y3 yt yn : List UInt8} {ya : List Ex} {ysv : Option Addr} {ycv : Nat} (hA : ReadsP (fun b => W.heap.size + 2 ≤ b) A (.slice ysv ya.length ycv) ya) (hR : R = .good kk (.mk yk (y1, y2, y3) yt yn yo ya)) :
    XPost bs g cap ts W R (.returned (EV yk (y1, y2, y3) yt yn yo (.slice ysv ya.length ycv))) (Go.Proofs.YtepkfkfedmbmnaaGreatDoor.set8 A (W.heap.size + 1) (.int .i64 yk) (.int .i64 y1) (.int .i64 y2) (S y3) (S yt) (S yn) (.int .i64 yo) (.slice ysv ya.length ycv)) :=
  XPost.yes (grown_set8 h.grown (by omega) _ _ _ _ _ _ _ _) (hs.set8 (by omega) (by omega) _ _ _ _ _ _ _ _) hR ⟨_, rfl, (hA.keep (q := fun b => W.heap.size ≤ b) (fun b hb => by omega) fun b hb _ => set8_other _ (by omega) _ _ _ _ _ _ _ _)⟩
/-- Where the loop stands. -/
def SevSt (ts : List Tok) (R : Res) (n d f kk : Nat) (x : Ex) : Prop := ∃ f', f' ≤ f ∧ R = runR ts f' (.lp n kk d x)
theorem level_ops {n : Nat} {o : Int} (h : o ∈ levelOps n) : 1 ≤ o ∧ o ≤ 20 := by
  unfold levelOps at h
  split at h <;> simp at h <;> omega
theorem level_len (n : Nat) : (levelOps n).length ≤ 10 := by
  unfold levelOps
  split <;> simp
--BEGIN1
set_option maxHeartbeats 8000000 in
theorem eseveral_any {f : Nat} (IH : ∀ f', f' ≤ f → AllP f') {W : World} {bs g cap k n d : Nat} {ts : List Tok} (h : Strm W bs g cap ts k) (hT : TokOK ts) (hd : d ≤ 60) (hn : n ≤ 6) (fn : FuncId) (hfn : fn = rdF (n + 1)) (l : List Int) (hl : l = levelOps n) (sv : Value) (hI : IntsN bs W sv l)
    (hne : ((runR ts f (.rd (n + 1) k d)).bind fun k1 x => runR ts f (.lp n k1 d x)) ≠ .out) :
    Calls Tryz.prog 87 #[RV bs, .int .i64 (d : Int), .func (.func fn) #[] #[], sv] W (XPost bs g cap ts W ((runR ts f (.rd (n + 1) k d)).bind fun k1 x => runR ts f (.lp n k1 d x))) := by
  subst hfn
  have hen := enters_rdF (n + 1)
  have H := Lib.hid h
  have HI := Lib.hid IH
  have HT := Lib.hid hT
  have HIN := Lib.hid hI
  have hbl := h.lt'
  have hgl := h.gl
  obtain ⟨b, off, capl, rfl, -, -, -⟩ := hI
  obtain ⟨R, HR0⟩ : ∃ R, Hid (R = (runR ts f (.rd (n + 1) k d)).bind fun k1 x => runR ts f (.lp n k1 d x)) := ⟨_, rfl⟩
  rw [← HR0.out] at hne ⊢
  have HNE := Lib.hid hne
  have HN1 := Lib.hid (show runR ts f (.rd (n + 1) k d) ≠ .out from bind_out (by rw [← HR0.out]; exact hne))
  have HL := Lib.hid hl
  have hll : l.length ≤ 10 := by rw [hl]; exact level_len n
  have HLO := Lib.hid (show ∀ o ∈ l, 1 ≤ o ∧ o ≤ 20 from fun o ho => level_ops (n := n) (by rw [← hl]; exact ho))
  have HF0 := Lib.hid (FrP.start W bs)
  clear h IH hT hne hl
  go_enter Tryz.func87, Tryz.ntmps87
  go_wp2_with fail
  refine (HI.out f (Nat.le_refl _) (n + 1) (by omega) _ bs g cap ts k d _ rfl (H.out.bl (((Bl.refl W).alloc _).alloc _)) HT.out hd HN1.out).mono ?_
  intro e w1 hp
  obtain ⟨hg1, k1, hs1, (⟨xk, x1, x2, x3, xt, xn, xo, xa, asv, csv, hr, hA, rfl⟩ | ⟨c, hc, hr, rfl⟩)⟩ := hp.open
  · clear hp
    have HF1 := Lib.hid (HF0.out.next hbl hg1)
    have HSt := Lib.hid (show SevSt ts R n d f k1 (.mk xk (x1, x2, x3) xt xn xo xa) from ⟨f, Nat.le_refl _, by rw [HR0.out, hr]; rfl⟩)
    have hz1 := HF1.out.size
    have HA := Lib.hid (show ReadsP (fun b => W.heap.size + 2 ≤ b ∧ b ≠ w1.heap.size) w1 (.slice asv xa.length csv) xa from hA.of fun b hl (hb : _ ≤ b) => ⟨by simp at hb; omega, by omega⟩)
    have HS1 := Lib.hid hs1
    clear hg1 hs1 hA hr
    go_wp2_with fail
    go_loopw [10] (fun o wr => ∃ (v0 : Value) (kk : Nat) (yk y1 y2 : Int) (y3 yt yn : List UInt8) (yo : Int) (ya : List Ex) (ysv : Option Addr) (ycv : Nat), o = v0 ∧ Hid (FrP W wr bs) ∧ Hid (Strm wr bs g cap ts kk) ∧
      Hid (wr.heap[w1.heap.size]? = some (.cells #[.int .i64 yk, .int .i64 y1, .int .i64 y2, S y3, S yt, S yn, .int .i64 yo, .slice ysv ya.length ycv] 30 (0, 0))) ∧
      Hid (ReadsP (fun b => W.heap.size + 2 ≤ b ∧ b ≠ w1.heap.size) wr (.slice ysv ya.length ycv) ya) ∧ Hid (SevSt ts R n d f kk (.mk yk (y1, y2, y3) yt yn yo ya))) (fun _ wr => ts.length - natAt wr bs)
    case atStart => exact ⟨_, k1, xk, x1, x2, x3, xt, xn, xo, xa, asv, csv, rfl, HF1.out.bl ((Bl.refl _).alloc _), HS1.out.bl ((Bl.refl _).alloc _), heap_new _ _, HA.out.bl ((Bl.refl _).alloc _), HSt.out⟩
    case round =>
      clear HA HS1 HSt
      obtain ⟨v0, kk, yk, y1, y2, y3, yt, yn, yo, ya, ysv, ycv, rfl, HF, HS, HX, HA, HSt⟩ := hrel
      have p0 := cells1 HF.out.r
      have hkk := HS.out.lt
      have hzr := (Array.getElem?_eq_some_iff.1 HX.out).1
      obtain ⟨f', hf', hRf⟩ := HSt.out
      obtain ⟨f2, rfl⟩ : ∃ f2, f' = f2 + 1 := by
        cases f' with
        | zero => exact absurd hRf HNE.out
        | succ m => exact ⟨m, rfl⟩
      replace hRf : R = stepR ts (runR ts f2) (.lp n kk d (.mk yk (y1, y2, y3) yt yn yo ya)) := hRf
      rw [step_lp] at hRf
      clear HSt
      have HINr := Lib.hid (HIN.out.grown HF.out.grown)
      cases ht : takenK ts kk (levelOps n) with
      | none =>
        rw [ht] at hRf
        have HRF := Lib.hid hRf
        rw [← HL.out] at ht
        have HTK := Lib.hid ht
        clear hRf ht
        go_wp2_with fail
        (with_reducible refine (etaken_no HS.out HINr.out hll HLO.out HTK.out).mono ?_)
        rintro e w2 ⟨rfl, hg2, hs2⟩
        have HX2 := Lib.hid ((hg2.block _ hzr (fun e => by injection e with e; omega)).trans HX.out)
        have HF2 := Lib.hid (HF.out.next hbl hg2)
        have HA2 := Lib.hid (HA.out.grown hg2 (fun h => by omega))
        have HS2 := Lib.hid hs2
        obtain ⟨⟨e0, e1, e2, e3, e4, e5, e6, e7⟩, -⟩ := eight HX2.out
        obtain ⟨-, f0, f1, f3, f4, f5, f6, f7, f8⟩ := eight HF2.out.x
        obtain ⟨⟨i0, i1, i2, i3, i4, i5, i6, i7⟩, -⟩ := eight HF2.out.x
        clear hg2 hs2 p0
        go_wp2
        -- the answer's place is loaded and answered
        obtain ⟨⟨q0, q1, q2, q3, q4, q5, q6, q7⟩, -⟩ := eight (set8_heap (HF2.out).x (.int .i64 yk) (.int .i64 y1) (.int .i64 y2) (S y3) (S yt) (S yn) (.int .i64 yo) (.slice ysv ya.length ycv))
        exact bodyPost_ret (v := EV yk (y1, y2, y3) yt yn yo (.slice ysv ya.length ycv)) (by simp [results, Tryz.results87, go_sem, q0, q1, q2, q3, q4, q5, q6, q7]) rfl
          (HF2.out.fin hbl hgl HS2.out (HA2.out.of fun b _ hb => hb.1) HRF.out)
      | some q =>
        obtain ⟨o, k2⟩ := q
        rw [ht] at hRf
        have HRF := Lib.hid hRf
        have hk2 := takenK_le HT.out hkk ht
        have hrne := Lib.hid (bind_out (g := fun k3 y => runR ts f2 (.lp n k3 d (opE o [.mk yk (y1, y2, y3) yt yn yo ya, y]))) (show _ from by have := HNE.out; rw [hRf] at this; exact this))
        rw [← HL.out] at ht
        have HTK := Lib.hid ht
        clear hRf ht
        go_wp2_with fail
        (with_reducible refine (etaken_yes HS.out HINr.out hll HLO.out HTK.out).mono ?_)
        rintro e w2 ⟨rfl, hg2, hs2⟩
        have HX2 := Lib.hid ((hg2.block _ hzr (fun e => by injection e with e; omega)).trans HX.out)
        have HF2 := Lib.hid (HF.out.next hbl hg2)
        have HA2 := Lib.hid (HA.out.grown hg2 (fun h => by omega))
        have HS2 := Lib.hid hs2
        have hz2 := hg2.4
        clear hg2 hs2 p0
        go_wp2_with fail
        refine (wp_region_sd (fun B => B.heap[W.heap.size]? = some (.cells #[.pointer (some ⟨bs, 0, none⟩)] 80 (0, 0))) ((.take 0 (.take 2 (.take 3 (.take 4 (.two 1 5 (.one 5 (.one 6 (.one 7 (.one 8 .done)))) (.one 1 (.one 6 (.one 7 (.one 8 .done)))))))))) (by kernel_rfl) (by kernel_rfl) (by kernel_rfl) (fun c a d v w h => by cases d <;> exact h) ((HF2.out.bl ((Bl.refl _).drew)).r) ?_) -- wp_region_sc 
        intro wd HWD hHeld
        refine sc_take' rfl (by rfl) (by intro w hSw; (try dsimp only at hSw); have a0 := cells1 hSw; go_simp; (try (first | with_reducible rfl | rfl))) ?_; (try simp only [Act.put, List.setIfInBounds_toArray, List.set_cons_zero, List.set_cons_succ])
        refine sc_take' rfl (by rfl) (by intro w hSw; (try dsimp only at hSw); have a0 := cells1 hSw; go_simp; (try (first | with_reducible rfl | rfl))) ?_; (try simp only [Act.put, List.setIfInBounds_toArray, List.set_cons_zero, List.set_cons_succ])
        refine sc_take' rfl (by rfl) (by intro w hSw; (try dsimp only at hSw); have a0 := cells1 hSw; go_simp; (try (first | with_reducible rfl | rfl))) ?_; (try simp only [Act.put, List.setIfInBounds_toArray, List.set_cons_zero, List.set_cons_succ])
        refine sc_take' rfl (by rfl) (by intro w hSw; (try dsimp only at hSw); have a0 := cells1 hSw; go_simp; (try (first | with_reducible rfl | rfl))) ?_; (try simp only [Act.put, List.setIfInBounds_toArray, List.set_cons_zero, List.set_cons_succ])
        refine sc_two ?_ ?_
        focus
          obtain ⟨⟨e0, e1, e2, e3, e4, e5, e6, e7⟩, -⟩ := eight (Eq.trans (HWD.out.block _ (Array.getElem?_eq_some_iff.1 HX2.out).1) HX2.out)
          refine sc_call' rfl (fun K hK => ?_); go_simp; refine hK.out _ _ (hHeld) (fun hHeld2 => ?_); clear hHeld hK K; have hHeld := hHeld2; clear hHeld2
          clear e0 e1 e2 e3 e4 e5 e6 e7
          refine sc_call' rfl (fun K hK => ?_); go_simp; (refine (HI.out f2 (by omega) (n + 1) (by omega) _ bs g cap ts k2 d _ rfl (HS2.out.bl HWD.out) HT.out hd hrne.out).mono ?_; intro e w5 hp; obtain ⟨hg5, k5, hs5, hcase⟩ := hp.open; clear hp; have HF5 := Lib.hid ((HF2.out.bl HWD.out).next hbl hg5); rcases hcase with ⟨zk, z1, z2, z3, zt, zn, zo, za, zsv, zcv, hr5, hZ, rfl⟩ | ⟨c, hc, hr5, rfl⟩; rotate_left; (· go_wp2; exact ⟨rfl, XPost.no HF5.out.grown hs5 hc (by rw [HRF.out]; (try simp only); rw [hr5]; rfl)⟩); have hzd := HWD.out.size; have HX5 := Lib.hid ((hg5.block _ (by omega) (fun e => by injection e with e; omega)).trans ((HWD.out.block _ (by omega)).trans HX2.out)); have HS5 := Lib.hid hs5; have HR5 := Lib.hid hr5; have HA5 := Lib.hid ((HA2.out.bl HWD.out).grown hg5 (fun h => by omega)); have hz5 := hg5.4; have HZ := Lib.hid (show ReadsP (fun b => W.heap.size + 2 ≤ b ∧ b ≠ w1.heap.size) w5 (.slice zsv za.length zcv) za from hZ.of fun b hl (hb : _ ≤ b) => ⟨by omega, by omega⟩); clear hg5 hs5 hr5 hZ; obtain ⟨⟨g0, g1, g2, g3, g4, g5, g6, g7⟩, -⟩ := eight HX5.out); go_wp2_with fail; refine hK.out _ _ ((by first | exact HF7.out.r | exact HF5.out.r)) (fun hHeld2 => ?_); clear hHeld hK K; have hHeld := hHeld2; clear hHeld2
          refine sc_call' rfl (fun K hK => ?_); go_simp; refine hK.out _ _ (((HF5.out.bl ((Bl.refl _).alloc _)).r)) (fun hHeld2 => ?_); clear hHeld hK K; have hHeld := hHeld2; clear hHeld2
          refine sc_call' rfl (fun K hK => ?_); go_simp; ((with_reducible refine (eof_any o _ _ _ _).mono ?_); rintro e w7 ⟨rfl, hb7⟩; have HB7 := Lib.hid (((Bl.refl w5).alloc _).call hb7); have HSL := Lib.hid ((hb7.block w5.heap.size (by simp)).trans (heap_new' _ _ (k := w5.heap.size) rfl)); have HF7 := Lib.hid (HF5.out.bl HB7.out); have HX7 := Lib.hid ((HB7.out.block _ (by omega)).trans HX5.out); clear hb7); go_wp2_with fail; refine hK.out _ _ ((by first | exact HF7.out.r | exact HF5.out.r)) (fun hHeld2 => ?_); clear hHeld hK K; have hHeld := hHeld2; clear hHeld2
          obtain ⟨⟨e0, e1, e2, e3, e4, e5, e6, e7⟩, f0, f1, f3, f4, f5, f6, f7, f8⟩ := eight HX7.out
          refine sc_call' rfl (fun K hK => ?_); go_simp; refine hK.out _ _ (((set8_other _ (b := w1.heap.size) (by omega) _ _ _ _ _ _ _ _).trans HF7.out.r)) (fun hHeld2 => ?_); clear hHeld hK K; have hHeld := hHeld2; clear hHeld2
          clear e0 e1 e2 e3 e4 e5 e6 e7 f0 f1 f3 f4 f5 f6 f7 f8
          refine sc_nil ?_
          go_wp2
          go_roundw
          case rel => exact ⟨_, k5, 3, 0, 0, [], [], [], o, [.mk yk (y1, y2, y3) yt yn yo ya, .mk zk (z1, z2, z3) zt zn zo za], some ⟨w5.heap.size, 0, none⟩, 2, rfl, HF7.out.set8 (by omega) _ _ _ _ _ _ _ _, (HS5.out.bl HB7.out).set8 (by omega) (by omega) _ _ _ _ _ _ _ _, set8_heap HX7.out _ _ _ _ _ _ _ _, (p_two (p := fun b => W.heap.size + 2 ≤ b ∧ b ≠ w1.heap.size) 2 ⟨by omega, by omega⟩ HSL.out (HA5.out.bl HB7.out) (HZ.out.bl HB7.out)).set8' (fun i hi => hi.2) _ _ _ _ _ _ _ _, ⟨f2, by omega, by rw [HRF.out]; (try simp only); rw [HR5.out]; rfl⟩⟩
          case measure => have n1 := natAt_strm HS.out; have n2 := natAt_strm ((HS5.out.bl HB7.out).set8 (b := w1.heap.size) (by omega) (by omega) (.int .i64 3) (.int .i64 0) (.int .i64 0) (S []) (S []) (S []) (.int .i64 o) (.slice (some ⟨w5.heap.size, 0, none⟩) 2 2)); have hp := parts_past HT.out hk2.2 HR5.out; have hp2 := hk2.1; show ts.length - natAt (set8 w7 w1.heap.size (.int .i64 3) (.int .i64 0) (.int .i64 0) (S []) (S []) (S []) (.int .i64 o) (.slice (some ⟨w5.heap.size, 0, none⟩) 2 2)) bs < ts.length - natAt wr bs; rw [n1, n2]; omega
        rotate_left 1
        focus
          refine sc_call' rfl (fun K hK => ?_); go_simp; (refine (HI.out f2 (by omega) (n + 1) (by omega) _ bs g cap ts k2 d _ rfl (HS2.out.bl HWD.out) HT.out hd hrne.out).mono ?_; intro e w5 hp; obtain ⟨hg5, k5, hs5, hcase⟩ := hp.open; clear hp; have HF5 := Lib.hid ((HF2.out.bl HWD.out).next hbl hg5); rcases hcase with ⟨zk, z1, z2, z3, zt, zn, zo, za, zsv, zcv, hr5, hZ, rfl⟩ | ⟨c, hc, hr5, rfl⟩; rotate_left; (· go_wp2; exact ⟨rfl, XPost.no HF5.out.grown hs5 hc (by rw [HRF.out]; (try simp only); rw [hr5]; rfl)⟩); have hzd := HWD.out.size; have HX5 := Lib.hid ((hg5.block _ (by omega) (fun e => by injection e with e; omega)).trans ((HWD.out.block _ (by omega)).trans HX2.out)); have HS5 := Lib.hid hs5; have HR5 := Lib.hid hr5; have HA5 := Lib.hid ((HA2.out.bl HWD.out).grown hg5 (fun h => by omega)); have hz5 := hg5.4; have HZ := Lib.hid (show ReadsP (fun b => W.heap.size + 2 ≤ b ∧ b ≠ w1.heap.size) w5 (.slice zsv za.length zcv) za from hZ.of fun b hl (hb : _ ≤ b) => ⟨by omega, by omega⟩); clear hg5 hs5 hr5 hZ; obtain ⟨⟨g0, g1, g2, g3, g4, g5, g6, g7⟩, -⟩ := eight HX5.out); go_wp2_with fail; refine hK.out _ _ ((by first | exact HF7.out.r | exact HF5.out.r)) (fun hHeld2 => ?_); clear hHeld hK K; have hHeld := hHeld2; clear hHeld2
          obtain ⟨⟨e0, e1, e2, e3, e4, e5, e6, e7⟩, -⟩ := eight (Eq.trans (HWD.out.block _ (Array.getElem?_eq_some_iff.1 HX2.out).1) HX2.out)
          refine sc_call' rfl (fun K hK => ?_); go_simp; refine hK.out _ _ (hHeld) (fun hHeld2 => ?_); clear hHeld hK K; have hHeld := hHeld2; clear hHeld2
          clear e0 e1 e2 e3 e4 e5 e6 e7
          refine sc_call' rfl (fun K hK => ?_); go_simp; refine hK.out _ _ (((HF5.out.bl ((Bl.refl _).alloc _)).r)) (fun hHeld2 => ?_); clear hHeld hK K; have hHeld := hHeld2; clear hHeld2
          refine sc_call' rfl (fun K hK => ?_); go_simp; ((with_reducible refine (eof_any o _ _ _ _).mono ?_); rintro e w7 ⟨rfl, hb7⟩; have HB7 := Lib.hid (((Bl.refl w5).alloc _).call hb7); have HSL := Lib.hid ((hb7.block w5.heap.size (by simp)).trans (heap_new' _ _ (k := w5.heap.size) rfl)); have HF7 := Lib.hid (HF5.out.bl HB7.out); have HX7 := Lib.hid ((HB7.out.block _ (by omega)).trans HX5.out); clear hb7); go_wp2_with fail; refine hK.out _ _ ((by first | exact HF7.out.r | exact HF5.out.r)) (fun hHeld2 => ?_); clear hHeld hK K; have hHeld := hHeld2; clear hHeld2
          obtain ⟨⟨e0, e1, e2, e3, e4, e5, e6, e7⟩, f0, f1, f3, f4, f5, f6, f7, f8⟩ := eight HX7.out
          refine sc_call' rfl (fun K hK => ?_); go_simp; refine hK.out _ _ (((set8_other _ (b := w1.heap.size) (by omega) _ _ _ _ _ _ _ _).trans HF7.out.r)) (fun hHeld2 => ?_); clear hHeld hK K; have hHeld := hHeld2; clear hHeld2
          clear e0 e1 e2 e3 e4 e5 e6 e7 f0 f1 f3 f4 f5 f6 f7 f8
          refine sc_nil ?_
          go_wp2
          go_roundw
          case rel => exact ⟨_, k5, 3, 0, 0, [], [], [], o, [.mk yk (y1, y2, y3) yt yn yo ya, .mk zk (z1, z2, z3) zt zn zo za], some ⟨w5.heap.size, 0, none⟩, 2, rfl, HF7.out.set8 (by omega) _ _ _ _ _ _ _ _, (HS5.out.bl HB7.out).set8 (by omega) (by omega) _ _ _ _ _ _ _ _, set8_heap HX7.out _ _ _ _ _ _ _ _, (p_two (p := fun b => W.heap.size + 2 ≤ b ∧ b ≠ w1.heap.size) 2 ⟨by omega, by omega⟩ HSL.out (HA5.out.bl HB7.out) (HZ.out.bl HB7.out)).set8' (fun i hi => hi.2) _ _ _ _ _ _ _ _, ⟨f2, by omega, by rw [HRF.out]; (try simp only); rw [HR5.out]; rfl⟩⟩
          case measure => have n1 := natAt_strm HS.out; have n2 := natAt_strm ((HS5.out.bl HB7.out).set8 (b := w1.heap.size) (by omega) (by omega) (.int .i64 3) (.int .i64 0) (.int .i64 0) (S []) (S []) (S []) (.int .i64 o) (.slice (some ⟨w5.heap.size, 0, none⟩) 2 2)); have hp := parts_past HT.out hk2.2 HR5.out; have hp2 := hk2.1; show ts.length - natAt (set8 w7 w1.heap.size (.int .i64 3) (.int .i64 0) (.int .i64 0) (S []) (S []) (S []) (.int .i64 o) (.slice (some ⟨w5.heap.size, 0, none⟩) 2 2)) bs < ts.length - natAt wr bs; rw [n1, n2]; omega
  · clear hp
    go_wp2
    exact ⟨rfl, XPost.no (grown_trans HF0.out.grown hg1) hs1 hc (by rw [HR0.out, hr]; rfl)⟩
--END1

end Go.Proofs.YtepkfkfedmbmnaaGreatDoor

