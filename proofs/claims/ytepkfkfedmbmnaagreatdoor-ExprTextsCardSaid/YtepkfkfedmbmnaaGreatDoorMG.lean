/- value.laid. A strings.Builder that a call has made, beside another block that is kept: WriteByte. What the package-level variables hold, kept over calls; the closures that tell literals. value.Literal. value.text.cut and value.reader.quotes. value.bytes. value.read. value.Parse. -/
import Derived.Test.YtepkfkfedmbmnaaGreatDoorMV
import Derived.Test.YtepkfkfedmbmnaaGreatDoorM0
import Derived.Test.YtepkfkfedmbmnaaGreatDoorShelf
import Derived.Test.YtepkfkfedmbmnaaGreatDoorMP
import Derived.Shelf.Strings.BuilderK
import Derived.ShutString
import Derived.Laws.IdiomStrings
import Derived.Sort.Grow
import Derived.Lib.QuietBelow
import Derived.Deep.RegionHeld3
import Derived.Lib.OthersKept
import Derived.Deep.AppendLies
import Derived.Lib.ParseIntBTie
import Derived.Lib.ConvBytes
namespace Go.Proofs.YtepkfkfedmbmnaaGreatDoor
open Go.RowKit
set_option maxRecDepth 100000

abbrev lE (n : Int) (f : FuncId) (b : Nat) : MapEntry := { key := .int .i64 n, val := .func (.func f) #[] #[], born := b }
abbrev lAll : Array MapEntry := #[lE 0 141 0, lE 1 142 1, lE 2 144 2, lE 3 146 3, lE 4 149 4]
/-- Which function tells the literals of a kind. -/
def laidF (k : Int) : FuncId := if k = 0 then 141 else if k = 1 then 142 else if k = 2 then 144 else if k = 3 then 146 else 149

theorem ins0 (w : World) : (Instr.mapUpdate 161 (.map (some w.heap.size)) (.int .i64 0) (.func (.func 141) #[] #[])).run Tryz.prog (w.alloc (.map #[] 0)) = .ok () (w.alloc (.map #[lE 0 141 0] 1)) :=
  run_insert_int Tryz.underlying161 Tryz.underlying24 w #[] 0 0 _ rfl
theorem ins1 (w : World) : (Instr.mapUpdate 161 (.map (some w.heap.size)) (.int .i64 1) (.func (.func 142) #[] #[])).run Tryz.prog (w.alloc (.map #[lE 0 141 0] 1)) = .ok () (w.alloc (.map #[lE 0 141 0, lE 1 142 1] 2)) :=
  run_insert_int Tryz.underlying161 Tryz.underlying24 w #[lE 0 141 0] 1 1 _ rfl
theorem ins2 (w : World) : (Instr.mapUpdate 161 (.map (some w.heap.size)) (.int .i64 2) (.func (.func 144) #[] #[])).run Tryz.prog (w.alloc (.map #[lE 0 141 0, lE 1 142 1] 2)) = .ok () (w.alloc (.map #[lE 0 141 0, lE 1 142 1, lE 2 144 2] 3)) :=
  run_insert_int Tryz.underlying161 Tryz.underlying24 w #[lE 0 141 0, lE 1 142 1] 2 2 _ rfl
theorem ins3 (w : World) : (Instr.mapUpdate 161 (.map (some w.heap.size)) (.int .i64 3) (.func (.func 146) #[] #[])).run Tryz.prog (w.alloc (.map #[lE 0 141 0, lE 1 142 1, lE 2 144 2] 3)) = .ok () (w.alloc (.map #[lE 0 141 0, lE 1 142 1, lE 2 144 2, lE 3 146 3] 4)) :=
  run_insert_int Tryz.underlying161 Tryz.underlying24 w #[lE 0 141 0, lE 1 142 1, lE 2 144 2] 3 3 _ rfl
theorem ins4 (w : World) : (Instr.mapUpdate 161 (.map (some w.heap.size)) (.int .i64 4) (.func (.func 149) #[] #[])).run Tryz.prog (w.alloc (.map #[lE 0 141 0, lE 1 142 1, lE 2 144 2, lE 3 146 3] 4)) = .ok () (w.alloc (.map lAll 5)) :=
  run_insert_int Tryz.underlying161 Tryz.underlying24 w #[lE 0 141 0, lE 1 142 1, lE 2 144 2, lE 3 146 3] 4 4 _ rfl

set_option maxHeartbeats 400000 in
theorem laid_any (w : World) : Calls Tryz.prog 122 #[] w fun e w' => e = .returned (.map (some w.heap.size)) ∧ w' = w.alloc (.map lAll 5) := by
  have hmm := @run_makeMap Tryz.prog
  have h0 := ins0
  have h1 := ins1
  have h2 := ins2
  have h3 := ins3
  have h4 := ins4
  go_enter Tryz.func122, Tryz.ntmps122
  go_wp2
  go_ret
  exact ⟨rfl, rfl⟩

theorem look_laid {w : World} {r : Nat} (hb : w.heap[r]? = some (.map lAll 5)) {k : Int} (h0 : 0 ≤ k) (h4 : k ≤ 4) :
    (Instr.lookup 161 (.map (some r)) (.int .i64 k) false).run Tryz.prog w = .ok (.func (.func (laidF k)) #[] #[]) w := by
  have hk : k = 0 ∨ k = 1 ∨ k = 2 ∨ k = 3 ∨ k = 4 := by omega
  rcases hk with rfl | rfl | rfl | rfl | rfl
  · exact run_lookup_int Tryz.underlying161 Tryz.underlying24 hb (i := 0) rfl
  · exact run_lookup_int Tryz.underlying161 Tryz.underlying24 hb (i := 1) rfl
  · exact run_lookup_int Tryz.underlying161 Tryz.underlying24 hb (i := 2) rfl
  · exact run_lookup_int Tryz.underlying161 Tryz.underlying24 hb (i := 3) rfl
  · exact run_lookup_int Tryz.underlying161 Tryz.underlying24 hb (i := 4) rfl

end Go.Proofs.YtepkfkfedmbmnaaGreatDoor

namespace Go.Proofs.YtepkfkfedmbmnaaGreatDoor
open Go.RowKit Go.Shelf

theorem ownsRow_low {w : World} {base base' : Nat} {e : TypeId} {size : Nat} {v : Value} {n : Nat} {xs : List Value} (h : w.ownsRow base e size v n xs) (hb : base' ≤ base) : w.ownsRow base' e size v n xs := by
  obtain ⟨h1, h2 | ⟨g, cap, cur, hv, hg, rest⟩⟩ := h
  · exact ⟨h1, .inl h2⟩
  · exact ⟨h1, .inr ⟨g, cap, cur, hv, Nat.le_trans hb hg, rest⟩⟩
theorem ownsRow_apart {w : World} {base : Nat} {e : TypeId} {size : Nat} {v : Value} {n : Nat} {xs : List Value} (h : w.ownsRow base e size v n xs) {k : Nat} (hk : k < base) : v.ownBlock ≠ some k := by
  obtain ⟨h1, ⟨rfl, _⟩ | ⟨g, cap, cur, rfl, hg, rest⟩⟩ := h
  · simp [Value.ownBlock]
  · simp [Value.ownBlock]; omega

/-- A builder at block b that holds bs, its row behind block k; block k holds o. -/
def KB (B b k : Nat) (o : Obj) (bs : List Value) (w : World) : Prop :=
  B ≤ b ∧ b < k ∧ ∃ p v, (p = .pointer none ∨ p = .pointer (some ⟨b, 0, none⟩)) ∧ w.heap[b]? = some (.cells #[p, v] 172 (0, 0)) ∧ w.ownsRow (k + 1) 5 1 v bs.length bs ∧ w.heap[k]? = some o

theorem KB.is {B b k : Nat} {o : Obj} {bs : List Value} {w : World} (h : KB B b k o bs w) : Lib.IsBuilder 172 5 B b bs w := by
  obtain ⟨hB, hbk, p, v, hp, hb, ho, _⟩ := h
  have hn := ownsRow_apart ho (k := b) (by omega)
  have ho' := ownsRow_low ho (base' := B) (by omega)
  rcases hp with rfl | rfl
  · exact .inl ⟨hB, v, hb, ho', hn⟩
  · exact .inr ⟨hB, v, hb, ho', hn⟩
theorem KB.start {B b k : Nat} {o : Obj} {w : World} (hB : B ≤ b) (hbk : b < k) (hb : w.heap[b]? = some (.cells #[.pointer none, .slice none 0 0] 172 (0, 0))) (hk : w.heap[k]? = some o) : KB B b k o [] w :=
  ⟨hB, hbk, _, _, .inl rfl, hb, ⟨rfl, .inl ⟨rfl, rfl⟩⟩, hk⟩
theorem KB.lt {B b k : Nat} {o : Obj} {bs : List Value} {w : World} (h : KB B b k o bs w) : B ≤ b ∧ b < k ∧ k < w.heap.size := by
  obtain ⟨h1, h2, p, v, _, _, _, hk⟩ := h
  exact ⟨h1, h2, (Array.getElem?_eq_some_iff.1 hk).1⟩
theorem KB.other {B b k : Nat} {o : Obj} {bs : List Value} {w : World} (h : KB B b k o bs w) : w.heap[k]? = some o := by
  obtain ⟨_, _, p, v, _, _, _, hk⟩ := h
  exact hk

set_option maxHeartbeats 1000000 in
set_option maxRecDepth 100000 in
theorem copyCheck_kb (B b k : Nat) (o : Obj) (bs : List Value) (w : World) (h : KB B b k o bs w) :
    Calls Tryz.prog 170 #[.pointer (some ⟨b, 0, none⟩)] w fun e w' => e = .returned (.tuple #[]) ∧ (KB B b k o bs w' ∧ w'.cell? ⟨b, 0, none⟩ = some (.pointer (some ⟨b, 0, none⟩)) ∧ Below B w w') := by
  obtain ⟨hB, hbk, p, v, hp, hb, ho, hk⟩ := h
  have hn := ownsRow_apart ho (k := b) (by omega)
  have c0 : w.cell? ⟨b, 0, none⟩ = some p := by rw [Lib.cell_of_heap hb]; rfl
  have hlt : b < w.heap.size := World.block_lt_of_cell? _ _ c0
  rcases hp with rfl | rfl
  · refine (Any.Builder_copyCheck_fresh { Tryz.lays167 with } Tryz.Builder_Extra_167.toX72 b w c0 (by simp [World.shape?, hb]; rfl) (Lib.frozen_of_heap hb 0)).mono ?_
    rintro e w' ⟨rfl, rfl⟩
    have hb' : (w.setCell ⟨b, 0, none⟩ (.pointer (some ⟨b, 0, none⟩))).heap[b]? = some (.cells #[.pointer (some ⟨b, 0, none⟩), v] 172 (0, 0)) := by
      simp [World.setCell, Array.getElem?_modify, hb]
    refine ⟨rfl, ⟨hB, hbk, _, v, .inr rfl, hb', ?_, ?_⟩, by rw [Lib.cell_of_heap hb']; rfl, (Below.refl B w).setCell (p := ⟨b, 0, none⟩) hB _⟩
    · refine ho.kept (row := some b) ⟨rfl, rfl, rfl, by simp [World.setCell], fun k _ hk => Below.heap_setCell _ _ _ _ (fun e => hk (by simp [e]))⟩ ?_
      exact Or.inr hn
    · rw [Below.heap_setCell _ _ _ _ (by simp; omega)]; exact hk
  · refine (Any.Builder_copyCheck_used { Tryz.lays167 with } Tryz.Builder_Extra_167.toX72 b w c0).mono ?_
    rintro e w' ⟨rfl, rfl⟩
    exact ⟨rfl, ⟨hB, hbk, _, v, .inr rfl, hb, ho, hk⟩, c0, Below.refl B _⟩

set_option maxHeartbeats 2000000 in
set_option maxRecDepth 100000 in
theorem WriteByte_kb (B b k : Nat) (o : Obj) (bs : List Value) (c : Int) (w : World) (h : KB B b k o bs w) (hlen : bs.length + 1 ≤ 140737488355328) (hBw : B ≤ w.heap.size) :
    Calls Tryz.prog 150 #[.pointer (some ⟨b, 0, none⟩), .int .u8 c] w fun e w' => e = .returned .nilIface ∧ (KB B b k o (bs ++ [.int .u8 c]) w' ∧ Below B w w') := by
  obtain ⟨i0, hi, hz0, hz1, hz2⟩ := info_parts Tryz.Builder_Extra_167.infoByte
  go_enter Tryz.func150, Tryz.ntmps150
  go_wp2_with (go_at_call 170; refine (copyCheck_kb B b k o bs _ h).mono ?_)
  rintro e w1 ⟨rfl, h1, c0, hb1⟩
  obtain ⟨hB, hlk, p, v, hp, hbk, hown, hk⟩ := h1
  have hne := ownsRow_apart hown (k := b) (by omega)
  have hke := ownsRow_apart hown (k := k) (by omega)
  have hkl : k < w1.heap.size := (Array.getElem?_eq_some_iff.1 hk).1
  have hp' : p = .pointer (some ⟨b, 0, none⟩) := by rw [Lib.cell_of_heap hbk] at c0; simpa using c0
  subst hp'
  have c1 : w1.cell? ⟨b, 1, none⟩ = some v := by rw [Lib.cell_of_heap hbk]; rfl
  go_wp2_with (at_builtin; refine wpList_append_own _ rfl _ _ 130 rfl (k + 1) 5 i0 (.int .u8 0) 1 1 Tryz.underlying130 hi hz0 hz1 hz2 rfl (by decide) _ _ _ rfl (hown.alloc _) ⟨w1.heap.size, 0, none⟩ 1 1 [.int .u8 c] rfl rfl ?c1 ?c2 ?c3 ?c4 ?c5 ?_)
  case c1 =>
    intro j u hj
    match j, hj with
    | 0, hj => simp at hj; subst hj; simp [Addr.add]
  case c2 => intro u hu; simp at hu; subst hu; rfl
  case c3 => unfold maxLen; omega
  case c4 => omega
  case c5 => simp; omega
  intro v' w2 hown' hgrow hnew
  have hlt : b < w1.heap.size := World.block_lt_of_cell? _ _ c1
  have hb2 : w2.heap[b]? = some (.cells #[.pointer (some ⟨b, 0, none⟩), v] 172 (0, 0)) := by
    rw [hgrow.block b (by simp; omega) (fun e => hne e.symm), Lib.alloc_old w1 _ b hlt]
    exact hbk
  have hk2 : w2.heap[k]? = some o := by
    rw [hgrow.block k (by simp; omega) (fun e => hke e.symm), Lib.alloc_old w1 _ k hkl]
    exact hk
  have d0 : w2.cell? ⟨b, 0, none⟩ = some (.pointer (some ⟨b, 0, none⟩)) := by rw [Lib.cell_of_heap hb2]; rfl
  have d1 : w2.cell? ⟨b, 1, none⟩ = some v := by rw [Lib.cell_of_heap hb2]; rfl
  have f1 : w2.frozen? ⟨b, 1, none⟩ = false := Lib.frozen_of_heap hb2 1
  obtain ⟨g, cap, rfl⟩ : ∃ g cap, v' = .slice (some ⟨g, 0, none⟩) (bs.length + 1) cap := by
    rcases hown'.2 with ⟨_, h0⟩ | ⟨g, cap, cur, hv, _⟩
    · omega
    · exact ⟨g, cap, hv⟩
  go_wp2
  go_ret
  refine ⟨rfl, ⟨hB, hlk, _, _, .inr rfl, (?_ : _ = some (Obj.cells #[.pointer (some ⟨b, 0, none⟩), .slice (some ⟨g, 0, none⟩) (bs.length + 1) cap] 172 (0, 0))), ?_, ?_⟩, ?_⟩
  · simp [World.setCell, Array.getElem?_modify, hb2]
  · have hn' := ownsRow_apart hown' (k := b) (by omega)
    have := hown'.kept (row := some b) (w' := w2.setCell ⟨b, 1, none⟩ (.slice (some ⟨g, 0, none⟩) (bs.length + 1) cap)) ⟨rfl, rfl, rfl, by simp [World.setCell], fun k _ hk => Below.heap_setCell _ _ _ _ (fun e => hk (by simp [e]))⟩ (Or.inr hn')
    simpa using this
  · rw [Below.heap_setCell _ _ _ _ (by simp; omega)]; exact hk2
  · exact ((hb1.alloc (by have := hb1.size; omega) _).grown hgrow (by have := hb1.size; simp; omega) (fun j hj => by have := (hown.lt j hj).1; omega)).setCell (p := ⟨b, 1, none⟩) hB _

end Go.Proofs.YtepkfkfedmbmnaaGreatDoor

namespace Go.Proofs.YtepkfkfedmbmnaaGreatDoor
open Go.RowKit
open Go.Sort (grow)
set_option maxRecDepth 100000

theorem gPow : Tryz.prog.globalNamed "internal/strconv.uint64pow10" = some 1 := by kernel_rfl
theorem gSyn : Tryz.prog.globalNamed "strconv.ErrSyntax" = some 2 := by kernel_rfl
theorem gRng : Tryz.prog.globalNamed "strconv.ErrRange" = some 3 := by kernel_rfl

structure Glob (w : World) : Prop where
  pow : Lib.TabIs Tryz.prog w "internal/strconv.uint64pow10" .u64 Lib.pow10Tab
  most : ∃ m, w.cell? ⟨0, 0, none⟩ = some (.int .i64 m)
  syn : ∃ tp p, w.var? Tryz.prog "strconv.ErrSyntax" = some #[.iface tp p]
  rng : ∃ tp p, w.var? Tryz.prog "strconv.ErrRange" = some #[.iface tp p]

theorem var_lt {w : World} {n : String} {g : Nat} {cs : Array Value} (hg : Tryz.prog.globalNamed n = some g) (h : w.var? Tryz.prog n = some cs) : g < w.heap.size := by
  unfold World.var? at h
  simp only [hg, Option.bind_some] at h
  rcases Nat.lt_or_ge g w.heap.size with h' | h'
  · exact h'
  · simp [Array.getElem?_eq_none h'] at h

theorem Glob.bl {w w' : World} (h : Glob w) (hb : Bl w w') : Glob w' where
  pow := var?_below hb gPow (var_lt gPow h.pow) h.pow
  most := let ⟨m, hm⟩ := h.most; ⟨m, Bl.cell hb hm⟩
  syn := let ⟨t, p, hm⟩ := h.syn; ⟨t, p, var?_below hb gSyn (var_lt gSyn hm) hm⟩
  rng := let ⟨t, p, hm⟩ := h.rng; ⟨t, p, var?_below hb gRng (var_lt gRng hm) hm⟩
theorem Glob.alloc {w : World} (h : Glob w) (o : Obj) : Glob (w.alloc o) := h.bl ((Bl.refl w).alloc o)

def litNull : List UInt8 := [110, 117, 108, 108]
def litText (l : List UInt8) : List UInt8 := [39] ++ dbl l ++ [39]
def hexDigit (n : Nat) : UInt8 := ([48, 49, 50, 51, 52, 53, 54, 55, 56, 57, 97, 98, 99, 100, 101, 102] : List UInt8).getD n 0
def hexOf (l : List UInt8) : List UInt8 := l.flatMap fun c => [hexDigit (c.toNat / 16), hexDigit (c.toNat % 16)]
def litBlob (l : List UInt8) : List UInt8 := [120] ++ ([39] ++ hexOf l ++ [39])
/-- A value's literal. -/
def lit (k n : Int) (l : List UInt8) : List UInt8 := if k = 0 then litNull else if k = 1 then Lib.formatBool (n == 1) else if k = 2 then Lib.itoa n else if k = 3 then litText l else litBlob l

theorem ret_S {a b : List UInt8} (h : a = b) : Ending.returned (S a) = .returned (S b) := by rw [h]

set_option maxHeartbeats 400000 in
theorem vquoted_any (l : List UInt8) (hl : l.length ≤ 1000000) (w : World) : Calls Tryz.prog 147 #[S l] w fun e w' => e = .returned (S ([39] ++ l ++ [39])) ∧ w' = w := by
  go_enter Tryz.func147, Tryz.ntmps147
  go_wp2

  go_ret
  exact ⟨ret_S (by simp), rfl⟩

set_option maxHeartbeats 400000 in
theorem laid1_any (k n : Int) (l : List UInt8) (w : World) : Calls Tryz.prog 141 #[V k n l] w fun e w' => e = .returned (S litNull) ∧ Bl w w' := by
  go_enter Tryz.func141, Tryz.ntmps141
  go_wp2
  go_ret
  exact ⟨rfl, (Bl.refl _).alloc _⟩

set_option maxHeartbeats 400000 in
theorem laid2_any (k n : Int) (l : List UInt8) (w : World) : Calls Tryz.prog 142 #[V k n l] w fun e w' => e = .returned (S (Lib.formatBool (n == 1))) ∧ Bl w w' := by
  go_enter Tryz.func142, Tryz.ntmps142
  go_wp2_with fail
  refine (Tryz.strconv_FormatBool _ _).mono ?_
  rintro e w' ⟨rfl, rfl⟩
  go_wp2
  go_ret
  exact ⟨rfl, (Bl.refl _).alloc _⟩

theorem Bl.regrown (w : World) (k : Nat) (os : Array Obj) : Bl w (grow (w.drewN k) os) :=
  ⟨rfl, rfl, rfl, by simp [grow, World.drewN], fun i hi => by simp [grow, World.drewN, Array.getElem?_append, hi]⟩

set_option maxHeartbeats 400000 in
theorem laid3_any (k n : Int) (l : List UInt8) (h0 : -9223372036854775808 ≤ n) (h1 : n ≤ 9223372036854775807) (w : World) (hG : Glob w) : Calls Tryz.prog 144 #[V k n l] w fun e w' => e = .returned (S (Lib.itoa n)) ∧ Bl w w' := by
  go_enter Tryz.func144, Tryz.ntmps144
  go_wp2_with fail
  refine (Tryz.strconv_FormatInt_10 n h0 h1 _ (hG.alloc _).pow).mono ?_
  rintro e w' ⟨rfl, j, os, rfl⟩
  go_wp2
  go_ret
  exact ⟨rfl, ((Bl.refl _).alloc _).call (Bl.regrown _ _ _)⟩

set_option maxHeartbeats 400000 in
theorem laid4_any (k n : Int) (l : List UInt8) (hl : l.length ≤ 1000) (w : World) (hG : Glob w) : Calls Tryz.prog 146 #[V k n l] w fun e w' => e = .returned (S (litText l)) ∧ Bl w w' := by
  obtain ⟨m, hm⟩ := (hG.alloc (.cells #[.int .i64 k, .int .i64 n, S l] 26)).most
  have HM := Lib.hid hm
  clear hm
  have hsz : (⟨l.toArray⟩ : ByteArray).size = l.length := size_of_list l
  have hct := Lib.countB_le (⟨#[39]⟩ : ByteArray) (by decide) l.length (⟨l.toArray⟩ : ByteArray) (by omega)
  have HS := Lib.hid hsz
  clear hsz
  go_enter Tryz.func146, Tryz.ntmps146
  go_wp2_with fail
  refine (Tryz.strings_ReplaceAll ⟨l.toArray⟩ ⟨#[39]⟩ ⟨#[39, 39]⟩ m _ (by rw [HS.out]; omega) HM.out (by decide) (by have e : (⟨#[39, 39]⟩ : ByteArray).size = 2 := rfl; rw [HS.out, e]; have := HS.out; omega)).mono ?_
  rintro e w' ⟨rfl, hb⟩
  rw [show Lib.replaceAll (⟨l.toArray⟩ : ByteArray).data.toList (⟨#[39]⟩ : ByteArray).data.toList (⟨#[39, 39]⟩ : ByteArray).data.toList = dbl l from replaceAll_dbl l]
  go_wp2_with fail
  refine (vquoted_any _ (by have := dbl_length l; omega) _).mono ?_
  rintro e w1 ⟨rfl, rfl⟩
  go_wp2
  go_ret
  exact ⟨rfl, ((Bl.refl _).alloc _).call hb⟩

theorem hexOf_length (l : List UInt8) : (hexOf l).length = 2 * l.length := by
  unfold hexOf; induction l with
  | nil => rfl
  | cons c r ih => simp [ih]; omega
theorem hexOf_snoc (l : List UInt8) (c : UInt8) : hexOf (l ++ [c]) = hexOf l ++ [hexDigit (c.toNat / 16), hexDigit (c.toNat % 16)] := by simp [hexOf]
theorem digit_at (n : Nat) (h : n < (⟨#[48, 49, 50, 51, 52, 53, 54, 55, 56, 57, 97, 98, 99, 100, 101, 102]⟩ : ByteArray).size) : (⟨#[48, 49, 50, 51, 52, 53, 54, 55, 56, 57, 97, 98, 99, 100, 101, 102]⟩ : ByteArray)[n] = hexDigit n := by
  have h' : n < 16 := h
  have : ∀ m : Fin 16, (⟨#[48, 49, 50, 51, 52, 53, 54, 55, 56, 57, 97, 98, 99, 100, 101, 102]⟩ : ByteArray)[m.val]'m.isLt = hexDigit m.val := by decide
  exact this ⟨n, h'⟩
theorem bytes_of (l : List UInt8) (w : World) : ∃ (C : Array Value) (fz : Nat × Nat) (cap : Nat), (∀ j, j < l.length → C[j]? = some (.int .u8 (l[j]?.getD 0).toNat)) ∧
    (convert 9 130 (S l)).run Tryz.prog w = .ok (.slice (some ⟨w.heap.size, 0, none⟩) l.length cap) ((w.alloc (.cells C 5 fz)).drew) := by
  refine ⟨bytesRow ⟨l.toArray⟩ (grownCap w (⟨l.toArray⟩ : ByteArray).size 0 5), ((bytesRow ⟨l.toArray⟩ (grownCap w (⟨l.toArray⟩ : ByteArray).size 0 5)).size, (bytesRow ⟨l.toArray⟩ (grownCap w (⟨l.toArray⟩ : ByteArray).size 0 5)).size + 1), grownCap w (⟨l.toArray⟩ : ByteArray).size 0 5, ?_, ?_⟩
  rotate_left
  · rw [run_bytes_of_string w 9 130 5 ⟨l.toArray⟩ Tryz.underlying9 Tryz.underlying130 Tryz.underlying5, size_of_list]
    rfl
  · intro j hj
    unfold bytesRow
    rw [Array.getElem?_append_left (by simpa using hj)]
    simp [hj]

set_option maxHeartbeats 1000000 in
theorem laid5_any (k n : Int) (l : List UInt8) (hl : l.length ≤ 1000) (w : World) : Calls Tryz.prog 149 #[V k n l] w fun e w' => e = .returned (S (litBlob l)) ∧ Bl w w' := by
  obtain ⟨C, fz, cap, hC, hcv⟩ := bytes_of l ((w.alloc (.cells #[.int .i64 k, .int .i64 n, S l] 26)).alloc (.cells #[.pointer none, .slice none 0 0] 172))
  simp only [World.size_alloc] at hcv
  have HC := Lib.hid hC
  clear hC
  go_enter Tryz.func149, Tryz.ntmps149
  go_wp2
  go_loopw [10] (fun i wr => ∃ j : Nat, j ≤ l.length ∧ i = .int .i64 j ∧ KB (w.heap.size + 1) (w.heap.size + 1) (w.heap.size + 1 + 1) (.cells C 5 fz) (Lib.byteCells (hexOf (l.take j))) wr ∧ Bl w wr) (fun i _ => l.length - (intOf i).toNat)
  case atStart =>
    refine ⟨0, Nat.zero_le _, rfl, KB.start (Nat.le_refl _) (by omega) ?_ ?_, ((((Bl.refl w).alloc _).alloc _).alloc _).drew⟩
    · show (World.alloc (World.alloc (World.alloc w _) _) _).heap[w.heap.size + 1]? = _
      rw [heap_old _ _ (by simp), heap_new' _ _ (by simp)]
    · show (World.alloc (World.alloc (World.alloc w _) _) _).heap[w.heap.size + 1 + 1]? = _
      rw [heap_new' _ _ (by simp)]
  case round =>
    obtain ⟨j, hj, rfl, hK, hB⟩ := hrel
    by_cases hlt : j < l.length
    · obtain ⟨c, hc, hcell⟩ : ∃ c : UInt8, l[j]? = some c ∧ wr.cell? ⟨w.heap.size + 1 + 1, j, none⟩ = some (.int .u8 c.toNat) :=
        ⟨l[j], by simp [hlt], by rw [Lib.cell_of_heap hK.other]; have := HC.out j hlt; simpa [hlt] using this⟩
      have X := Lib.hid hc
      clear hc
      have hc256 : c.toNat < 256 := c.toNat_lt
      have q1 : 0 ≤ (c.toNat : Int) / 16 ∧ (c.toNat : Int) / 16 < 16 := by omega
      have q2 : 0 ≤ ((c.toNat % 16 : Nat) : Int) ∧ ((c.toNat % 16 : Nat) : Int) < 16 := by omega
      have q3 := and_15_u8 c.toNat hc256
      have hlen := hexOf_length (l.take j)
      have hlt2 : (l.take j).length ≤ 1000 := by simp; omega
      go_wp2_with fail
      refine (WriteByte_kb _ _ _ _ _ _ _ hK (by simp [Lib.byteCells]; omega) (by have := hB.size; have := hK.lt; omega)).mono ?_
      rintro e w1 ⟨rfl, hK1, hB1⟩
      go_wp2_with fail
      refine (WriteByte_kb _ _ _ _ _ _ _ hK1 (by simp [Lib.byteCells]; omega) (by have := hK1.lt; omega)).mono ?_
      rintro e w2 ⟨rfl, hK2, hB2⟩
      go_wp2
      go_roundw
      case rel =>
        refine ⟨j + 1, by omega, by go_num, ?_, (hB.trans (hB1.mono (by omega))).trans (hB2.mono (by omega))⟩
        have e : l.take (j + 1) = l.take j ++ [c] := by rw [List.take_add_one, X.out]; rfl
        rw [e, hexOf_snoc, Lib.byteCells_append]
        simp only [List.append_assoc] at hK2
        rw [digit_at, digit_at] at hK2
        exact hK2
      case measure => simp [intOf]; omega
    · obtain rfl : j = l.length := by omega
      go_wp2_with fail
      refine (Tryz.Builder_String_any _ _ _ _ hK.is (by have := hK.lt; omega)).mono ?_
      rintro e w1 ⟨rfl, hB1⟩
      have hlen := hexOf_length l
      rw [List.take_length]
      go_wp2_with fail
      refine (vquoted_any _ (by omega) _).mono ?_
      rintro e w2 ⟨rfl, rfl⟩
      go_wp2
      go_ret
      refine ⟨ret_S ?_, hB.trans (hB1.mono (by omega))⟩
      simp [litBlob]

end Go.Proofs.YtepkfkfedmbmnaaGreatDoor

namespace Go.Proofs.YtepkfkfedmbmnaaGreatDoor
open Go.RowKit
set_option maxRecDepth 100000

theorem chk_cases {k n : Int} {l : List UInt8} (h : chk k n l = 0) : l.length ≤ 1000 ∧ 0 ≤ k ∧ k ≤ 4 := by
  unfold chk at h
  split at h
  · cases h
  · split at h
    · refine ⟨by omega, ?_, ?_⟩ <;> omega
    · cases h

theorem tells_any (k n : Int) (l : List UInt8) (h : chk k n l = 0) (h0 : -9223372036854775808 ≤ n) (h1 : n ≤ 9223372036854775807) (w : World) (hG : Glob w) :
    Calls Tryz.prog (laidF k) #[V k n l] w fun e w' => e = .returned (S (lit k n l)) ∧ Bl w w' := by
  obtain ⟨hl, k0, k4⟩ := chk_cases h
  have hk : k = 0 ∨ k = 1 ∨ k = 2 ∨ k = 3 ∨ k = 4 := by omega
  rcases hk with rfl | rfl | rfl | rfl | rfl
  · exact laid1_any 0 n l w
  · exact laid2_any 1 n l w
  · exact laid3_any 2 n l h0 h1 w hG
  · exact laid4_any 3 n l hl w hG
  · exact laid5_any 4 n l hl w

theorem enters_laidF (k : Int) (args : Array Value) (w : World) : (callFunc (laidF k) args).run Tryz.prog w = .ok (.enter (laidF k) args) w := by
  unfold laidF
  split
  · simp [go_sem]
  split
  · simp [go_sem]
  split
  · simp [go_sem]
  split
  · simp [go_sem]
  · simp [go_sem]

theorem Literal1_any (p : Addr) (v : Value) (w : World) (hc : w.cell? p = some v) (hz : w.frozen? p = false) : Calls Tryz.prog 121 #[.pointer (some p)] w fun e w' => e = .returned (.tuple #[]) ∧ w' = w.setCell p (S []) := by
  go_enter Tryz.func121, Tryz.ntmps121
  go_wp2
  go_end0
  exact ⟨rfl, rfl⟩
theorem enters_Literal1 (args : Array Value) (w : World) : (callFunc 121 args).run Tryz.prog w = .ok (.enter 121 args) w := by
  simp [go_sem]

set_option maxHeartbeats 1000000 in
theorem Literal_ok (k n : Int) (l : List UInt8) (h : chk k n l = 0) (h0 : -9223372036854775808 ≤ n) (h1 : n ≤ 9223372036854775807) (w : World) (hG : Glob w) :
    Calls Tryz.prog 98 #[V k n l] w fun e w' => e = .returned (.tuple #[S (lit k n l), .int .i64 0]) ∧ Bl w w' := by
  have H := Lib.hid h
  clear h
  have hmf : ∀ (fn : Fn) (first cap : Array Value) (w : World), (Instr.makeFunc fn first cap).run Tryz.prog w = .ok (.func fn first cap) w := fun _ _ _ _ => rfl
  go_enter_defers Tryz.func98, Tryz.ntmps98
  go_wp2_with fail
  refine (right_ok _ H.out).mono ?_
  rintro e w1 ⟨rfl, hb⟩
  have hb1 : Bl w w1 := ((((Bl.refl w).alloc _).alloc _).alloc _).call hb
  obtain ⟨hcl, hfz⟩ := bcell hb
  have c0 := hcl w.heap.size 0 (by simp; omega)
  have c1 := hcl w.heap.size 1 (by simp; omega)
  have c2 := hcl w.heap.size 2 (by simp; omega)
  have c3 := hcl (w.heap.size + 1) 0 (by simp)
  have c4 := hcl (w.heap.size + 1 + 1) 0 (by simp)
  have f3 := hfz (w.heap.size + 1) 0 (by simp)
  have f4 := hfz (w.heap.size + 1 + 1) 0 (by simp)
  simp [go_sem] at c0 c1 c2 c3 c4 f3 f4
  clear hcl hfz
  obtain ⟨_, k0, k4⟩ := chk_cases H.out
  have hlook : (Instr.lookup 161 (.map (some w1.heap.size)) (.int .i64 k) false).run Tryz.prog ((w1.alloc (.map lAll 5)).drew) = .ok (.func (.func (laidF k)) #[] #[]) ((w1.alloc (.map lAll 5)).drew) :=
    look_laid (w := (w1.alloc (.map lAll 5)).drew) (heap_new w1 (.map lAll 5)) k0 k4
  have hen := enters_laidF k
  have hbW : Bl w1 ((w1.alloc (.map lAll 5)).drew) := ((Bl.refl w1).alloc _).drew
  have hG2 := (hG.bl hb1).bl hbW
  clear k0 k4
  go_wp2_with fail
  go_region_held3 (fun w' => w'.cell? ⟨w.heap.size, 0, none⟩ = some (.int .i64 k) ∧ w'.cell? ⟨w.heap.size, 1, none⟩ = some (.int .i64 n) ∧ w'.cell? ⟨w.heap.size, 2, none⟩ = some (S l)) (first | exact ⟨c0, c1, c2⟩ | exact ⟨d0, d1, d2⟩ | exact ⟨set_apart (set_apart d0 (by simp)) (by simp; omega), set_apart (set_apart d1 (by simp)) (by simp; omega), set_apart (set_apart d2 (by simp)) (by simp; omega)⟩ | go_keep)
    (first
      | (go_at_call 122; (with_reducible refine (laid_any _).mono ?_); rintro e w2 ⟨rfl, rfl⟩)
      | ((with_reducible refine (tells_any k n l H.out h0 h1 _ hG2).mono ?_); rintro e w3 ⟨rfl, hb3⟩; have d0 := Bl.cell hb3 (Bl.cell hbW c0); have d1 := Bl.cell hb3 (Bl.cell hbW c1); have d2 := Bl.cell hb3 (Bl.cell hbW c2); have d3 := Bl.cell hb3 (Bl.cell hbW c3); have d4 := Bl.cell hb3 (Bl.cell hbW c4); have g3 := Bl.frozen hb3 (Bl.cell hbW c3) (Bl.frozen hbW c3 f3); have g4 := Bl.frozen hb3 (Bl.cell hbW c4) (Bl.frozen hbW c4 f4)))
  go_wp2_with fail
  refine leaves_cons (f := 107) (args := #[.pointer (some ⟨w.heap.size + 1 + 1, 0, none⟩), .func (.func 121) #[] #[.pointer (some ⟨w.heap.size + 1, 0, none⟩)]]) (by simp) (by simp [go_sem]) ?_
  refine (caught_idle _ _ _).mono ?_
  rintro e u' w'' ⟨rfl, rfl, rfl⟩
  have r1 := set_apart (p := ⟨w.heap.size + 1 + 1, 0, none⟩) (u := .int .i64 0) (set_same (u := S (lit k n l)) d3) (by simp)
  have r2 := set_same (u := .int .i64 0) (set_apart (p := ⟨w.heap.size + 1, 0, none⟩) (u := S (lit k n l)) d4 (by simp))
  refine ⟨.tuple #[S (lit k n l), .int .i64 0], ?_, rfl, ((hb1.call hbW).call hb3).set (by simp) _ |>.set (by simp; omega) _⟩
  simp [results, Tryz.results98, go_sem, r1, r2]

set_option maxHeartbeats 1000000 in
theorem Literal_no (k n : Int) (l : List UInt8) (h : ¬ chk k n l = 0) (w : World) :
    Calls Tryz.prog 98 #[V k n l] w fun e w' => e = .returned (.tuple #[S [], .int .i64 (chk k n l)]) ∧ Bl w w' := by
  have H := Lib.hid h
  clear h
  have hmf : ∀ (fn : Fn) (first cap : Array Value) (w : World), (Instr.makeFunc fn first cap).run Tryz.prog w = .ok (.func fn first cap) w := fun _ _ _ _ => rfl
  go_enter_defers Tryz.func98, Tryz.ntmps98
  go_wp2_with fail
  refine (right_no _ H.out).mono ?_
  rintro e w1 ⟨rfl, hb⟩
  have hb1 : Bl w w1 := ((((Bl.refl w).alloc _).alloc _).alloc _).call hb
  obtain ⟨hcl, hfz⟩ := bcell hb
  have c3 := hcl (w.heap.size + 1) 0 (by simp)
  have c4 := hcl (w.heap.size + 1 + 1) 0 (by simp)
  have f3 := hfz (w.heap.size + 1) 0 (by simp)
  have f4 := hfz (w.heap.size + 1 + 1) 0 (by simp)
  simp [go_sem] at c3 c4 f3 f4
  clear hcl hfz
  go_wp2_with fail
  refine leaves_cons (f := 107) (args := #[.pointer (some ⟨w.heap.size + 1 + 1, 0, none⟩), .func (.func 121) #[] #[.pointer (some ⟨w.heap.size + 1, 0, none⟩)]]) (by simp) (by simp [go_sem]) ?_
  have d3 := set_apart (p := ⟨w.heap.size + 1 + 1, 0, none⟩) (u := .int .i64 (chk k n l)) c3 (by simp)
  have g3 := set_apart_frozen (p := ⟨w.heap.size + 1 + 1, 0, none⟩) (u := .int .i64 (chk k n l)) f3
  have hL := Literal1_any ⟨w.heap.size + 1, 0, none⟩ _ (w1.setCell ⟨w.heap.size + 1 + 1, 0, none⟩ (.int .i64 (chk k n l))) d3 g3
  have hP := caught_panic ⟨w.heap.size + 1 + 1, 0, none⟩ 0 (chk k n l) 121 #[] #[.pointer (some ⟨w.heap.size + 1, 0, none⟩)] #[.pointer (some ⟨w.heap.size + 1, 0, none⟩)] (by simp) w1 _ c4 f4 enters_Literal1 hL
  refine hP.mono ?_
  rintro e u' w'' ⟨rfl, rfl, rfl⟩
  have r1 := set_same (u := S []) d3
  have r2 := set_apart (p := ⟨w.heap.size + 1, 0, none⟩) (u := S []) (set_same (u := .int .i64 (chk k n l)) c4) (by simp)
  refine ⟨.tuple #[S [], .int .i64 (chk k n l)], ?_, rfl, (hb1.set (by simp; omega) _).set (by simp) _⟩
  simp [results, Tryz.results98, go_sem, r1, r2]

end Go.Proofs.YtepkfkfedmbmnaaGreatDoor

namespace Go.Proofs.YtepkfkfedmbmnaaGreatDoor
open Go.RowKit
set_option maxRecDepth 100000

theorem CutPrefix_L (a b : List UInt8) (w : World) : Calls Tryz.prog 163 #[S a, S b] w fun e w' => e = .returned (.tuple #[S (Lib.trimPrefix a b), .bool (Lib.hasPrefix a b)]) ∧ w = w' :=
  (Tryz.strings_CutPrefix ⟨a.toArray⟩ ⟨b.toArray⟩ w).mono fun _ _ ⟨he, hw⟩ => ⟨he, hw.symm⟩
theorem CutSuffix_L (a b : List UInt8) (ha : a.length ≤ 1000000) (w : World) : Calls Tryz.prog 204 #[S a, S b] w fun e w' => e = .returned (.tuple #[S (Lib.trimSuffix a b), .bool (Lib.hasSuffix a b)]) ∧ w = w' :=
  (Tryz.strings_CutSuffix ⟨a.toArray⟩ ⟨b.toArray⟩ w (by rw [size_of_list]; omega)).mono fun _ _ ⟨he, hw⟩ => ⟨he, hw.symm⟩
theorem ReplaceAll_pairs (x : UInt8) (l : List UInt8) (hl : l.length ≤ 1000000) (w : World) (hG : Glob w) : Calls Tryz.prog 148 #[S l, S [39, 39], S [x]] w fun e w' => e = .returned (S (pairs x l)) ∧ Bl w w' := by
  obtain ⟨m, hm⟩ := hG.most
  have hsz : (⟨l.toArray⟩ : ByteArray).size = l.length := size_of_list l
  have hct := Lib.countB_le (⟨#[39, 39]⟩ : ByteArray) (by decide) l.length (⟨l.toArray⟩ : ByteArray) (by omega)
  have e1 : (⟨#[x]⟩ : ByteArray).size = 1 := rfl
  refine (Tryz.strings_ReplaceAll ⟨l.toArray⟩ ⟨#[39, 39]⟩ ⟨#[x]⟩ m w (by rw [hsz]; omega) hm (by decide) (by rw [hsz, e1]; omega)).mono ?_
  rintro e w' ⟨rfl, hb⟩
  refine ⟨?_, hb⟩
  rw [show Lib.replaceAll (⟨l.toArray⟩ : ByteArray).data.toList (⟨#[39, 39]⟩ : ByteArray).data.toList (⟨#[x]⟩ : ByteArray).data.toList = pairs x l from replaceAll_pairs x l.length l (Nat.le_refl _)]
theorem trimPrefix_length (a b : List UInt8) : (Lib.trimPrefix a b).length ≤ a.length := by unfold Lib.trimPrefix; split <;> simp

set_option maxHeartbeats 400000 in
theorem cut_ok (p : Addr) (l r : List UInt8) (hl : l.length ≤ 1000000) (w : World) (hc : w.cell? p = some (S l)) (hz : w.frozen? p = false) (h : cutQ l = some r) :
    Calls Tryz.prog 183 #[.pointer (some p), S [39], S [39]] w fun e w' => e = .returned (.tuple #[]) ∧ w' = w.setCell p (S r) := by
  have e := h
  unfold cutQ at e
  split at e
  · rename_i hb
    simp only [Bool.and_eq_true] at hb
    obtain ⟨b1, b2⟩ := hb
    injection e with e
    have E := Lib.hid e
    have H1 := Lib.hid b1
    have H2 := Lib.hid b2
    clear e b1 b2 h
    go_enter Tryz.func183, Tryz.ntmps183
    go_wp2_with fail
    refine (CutPrefix_L l [39] _).mono ?_
    rintro e w' ⟨rfl, rfl⟩
    rw [H1.out]
    go_wp2_with fail
    refine (CutSuffix_L _ [39] (by have := trimPrefix_length l [39]; omega) _).mono ?_
    rintro e w' ⟨rfl, rfl⟩
    rw [H2.out, E.out]
    go_wp2_with (first | (go_at_call 125; (with_reducible refine (must_yes _ _).mono ?_); rintro e w' ⟨rfl, rfl⟩))
    go_end0
    exact ⟨rfl, rfl⟩
  · cases e

set_option maxHeartbeats 400000 in
theorem cut_no (p : Addr) (l : List UInt8) (hl : l.length ≤ 1000000) (w : World) (hc : w.cell? p = some (S l)) (h : cutQ l = none) :
    Calls Tryz.prog 183 #[.pointer (some p), S [39], S [39]] w fun e w' => e = .panicked [{ v := .iface 31 (.int .i64 110), recovered := false }] ∧ w = w' := by
  have e := h
  unfold cutQ at e
  split at e
  · cases e
  rename_i hb
  have hb' : Lib.hasPrefix l [39] = false ∨ Lib.hasSuffix (Lib.trimPrefix l [39]) [39] = false := by
    cases h1 : Lib.hasPrefix l [39] <;> cases h2 : Lib.hasSuffix (Lib.trimPrefix l [39]) [39] <;> simp_all
  have H := Lib.hid hb'
  clear hb hb' e h
  go_enter Tryz.func183, Tryz.ntmps183
  go_wp2_with fail
  refine (CutPrefix_L l [39] _).mono ?_
  rintro e w' ⟨rfl, rfl⟩
  rcases H.out with h1 | h1
  · rw [h1]
    clear h1
    go_wp2_with fail
    refine (CutSuffix_L _ [39] (by have := trimPrefix_length l [39]; omega) _).mono ?_
    rintro e w' ⟨rfl, rfl⟩
    go_wp2_with (first | (go_at_call 125; (with_reducible refine (must_no _ _).mono ?_); rintro e w' ⟨rfl, rfl⟩))
    exact ⟨rfl, rfl, rfl⟩
  · generalize Lib.hasPrefix l [39] = b
    have H1 := Lib.hid h1
    clear h1
    cases b
    all_goals
      go_wp2_with fail
      refine (CutSuffix_L _ [39] (by have := trimPrefix_length l [39]; omega) _).mono ?_
      rintro e w' ⟨rfl, rfl⟩
      rw [H1.out]
      go_wp2_with (first | (go_at_call 125; (with_reducible refine (must_no _ _).mono ?_); rintro e w' ⟨rfl, rfl⟩))
      exact ⟨rfl, rfl, rfl⟩

set_option maxHeartbeats 400000 in
theorem quotes_cut_no (p : Addr) (l : List UInt8) (hl : l.length ≤ 1000000) (w : World) (hc : w.cell? p = some (S l)) (h : cutQ l = none) :
    Calls Tryz.prog 165 #[.pointer (some p)] w fun e w' => e = .panicked [{ v := .iface 31 (.int .i64 110), recovered := false }] ∧ w = w' := by
  have H := Lib.hid h
  clear h
  go_enter Tryz.func165, Tryz.ntmps165
  go_wp2_with fail
  refine (cut_no p l hl _ hc H.out).mono ?_
  rintro e w' ⟨rfl, rfl⟩
  exact ⟨rfl, rfl, rfl⟩

def quoteEnd (r : List UInt8) : Ending := if (pairs 0 r).contains 39 then .panicked [{ v := .iface 31 (.int .i64 110), recovered := false }] else .returned (S (pairs 39 r))
theorem infoRune : (Tryz.prog.info? 21).map (fun i => (i.zero, i.size, i.bytes)) = some (some (.int .i32 0), 1, 4) := by kernel_rfl

set_option maxHeartbeats 1000000 in
theorem quotes_cut (p : Addr) (l r : List UInt8) (hl : l.length ≤ 1000000) (w0 w : World) (hG : Glob w0) (hw0 : Bl w0 w) (hp : w0.heap.size ≤ p.block) (hc : w.cell? p = some (S l)) (hz : w.frozen? p = false) (h : cutQ l = some r) :
    Calls Tryz.prog 165 #[.pointer (some p)] w fun e w' => e = quoteEnd r ∧ Below p.block w w' := by
  have hr := cutQ_length h
  have H := Lib.hid h
  clear h
  have hb0 : Below p.block w (w.setCell p (S r)) := (Below.refl _ w).setCell (Nat.le_refl _) _
  have hG1 : Glob (w.setCell p (S r)) := hG.bl (hw0.set hp _)
  have hc1 := set_same (u := S r) hc
  have hplt : p.block < (w.setCell p (S r)).heap.size := World.block_lt_of_cell? _ _ hc1
  go_enter Tryz.func165, Tryz.ntmps165
  go_wp2_with fail
  refine (cut_ok p l r hl _ hc hz H.out).mono ?_
  rintro e w1 ⟨rfl, rfl⟩
  go_wp2_with fail
  generalize w.setCell p (S r) = w1 at *
  refine (ReplaceAll_pairs 0 r (by omega) _ hG1).mono ?_
  rintro e w2 ⟨rfl, hb2⟩
  have hplt2 : p.block < w2.heap.size := Nat.lt_of_lt_of_le hplt hb2.size
  have hc2 := Bl.cell hb2 hc1
  have hG2 := hG1.bl hb2
  have hs0 := pairs_length 0 r.length r (Nat.le_refl _)
  have hB2 : Below p.block w w2 := hb0.trans (hb2.mono (Nat.le_of_lt hplt))
  generalize hs : pairs 0 r = s0 at *
  have HS := Lib.hid hs
  clear hs
  go_wp2_with fail
  go_loopw [3, 4] (fun v b wr => ∃ (pos : Nat) (xs : List Value), pos ≤ s0.length ∧ b = .bool (odd s0 pos) ∧ wr.heap[w2.heap.size]? = some (.stringIter ⟨s0.toArray⟩ pos) ∧ wr.ownsRow (w2.heap.size + 1) 21 1 v xs.length xs ∧ xs.length ≤ pos ∧ Below w2.heap.size w2 wr) (fun _ _ wr => s0.length - wr.iterPos w2.heap.size)
  case atStart =>
    exact ⟨0, [], Nat.zero_le _, by rw [odd_zero], World.iter_heap _ _ _, ⟨rfl, .inl ⟨rfl, rfl⟩⟩, Nat.le_refl _, (Bl.refl w2).alloc _⟩
  case round =>
    obtain ⟨pos, xs, hpos, rfl, hit, hown, hxs, hB⟩ := hrel
    by_cases hlt : pos < s0.length
    · have hnx := Lib.run_next_any_at (P := Tryz.prog) wr w2.heap.size ⟨s0.toArray⟩ pos 0 hit (by rw [size_of_list]; exact hlt)
      obtain ⟨q1, q2, _, _⟩ := decode_quote s0 pos hlt
      have q3 := odd_next s0 pos hlt
      have hit' := Lib.iterAt_heap wr w2.heap.size ⟨s0.toArray⟩ pos (pos + (Utf8.decode ⟨s0.toArray⟩ pos).2) hit
      have hown' := ownsRow_iterAt hown (k := w2.heap.size) (by omega) ⟨s0.toArray⟩ (pos + (Utf8.decode ⟨s0.toArray⟩ pos).2)
      have hB' := Lib.below_iterAt hB (k := w2.heap.size) (Nat.le_refl _) ⟨s0.toArray⟩ (pos + (Utf8.decode ⟨s0.toArray⟩ pos).2)
      generalize wr.iterAt w2.heap.size ⟨s0.toArray⟩ (pos + (Utf8.decode ⟨s0.toArray⟩ pos).2) = wn at *
      generalize (Utf8.decode ⟨s0.toArray⟩ pos).2 = d2 at *
      generalize (Utf8.decode ⟨s0.toArray⟩ pos).1 = d1 at *
      have Q3 := Lib.hid q3
      have HIT := Lib.hid hit
      clear q3 hown hB hit
      have hwn : w2.heap.size + 1 ≤ wn.heap.size := (Array.getElem?_eq_some_iff.1 hit').1
      obtain ⟨i0, hi, hz0, hz1, hz2⟩ := info_parts infoRune
      by_cases hq : d1 = 39
      all_goals
        first
          | (have hqb : ((d1 : Int) == 39) = true := by simp [hq])
          | (have hqb : ((d1 : Int) == 39) = false := by simp; omega)
        have HQ := Lib.hid hq
        clear hq
        go_wp2_with (at_builtin; refine wpList_append_own _ rfl _ _ 209 rfl (w2.heap.size + 1) 21 i0 (.int .i32 0) 1 4 Tryz.underlying209 hi hz0 hz1 hz2 rfl (by decide) _ _ _ rfl (hown'.alloc _) ⟨wn.heap.size, 0, none⟩ 1 1 [.int .i32 d1] rfl rfl (cell_one_new _ _ _) (by simp [Value.oneCell']) (by unfold maxLen; omega) (by omega) (by simp; omega) ?_; intro v' w4 hown4 hgrow _)
        have hit4 : w4.heap[w2.heap.size]? = some (.stringIter ⟨s0.toArray⟩ (pos + d2)) := by
          rw [hgrow.block _ (by simp; omega) (fun e => ownsRow_apart hown' (k := w2.heap.size) (by omega) e.symm), heap_old _ _ (by omega)]
          exact hit'
        have hB4 : Below w2.heap.size w2 w4 := (hB'.alloc hB'.size _).grown hgrow (by have := hB'.size; simp; omega) (fun j hj => by have := (hown'.lt j hj).1; omega)
        go_wp2
        go_roundw
        case rel =>
          refine ⟨pos + d2, xs ++ [.int .i32 d1], q2, ?_, hit4, by simpa using hown4, by simp; omega, hB4⟩
          rw [Q3.out]
          simp [HQ.out]
        case measure =>
          simp only [World.iterPos, hit4, HIT.out]
          omega
    · obtain rfl : pos = s0.length := by omega
      have hnx := Lib.run_next_end_at (P := Tryz.prog) wr w2.heap.size ⟨s0.toArray⟩ s0.length 0 hit (by rw [size_of_list]; omega)
      have hcr : wr.cell? p = some (S r) := Bl.cell hB hc2
      have hGr := hG2.bl hB
      have hBr : Below p.block w wr := hB2.trans (hB.mono (Nat.le_of_lt hplt2))
      have hprt : p.block ≤ wr.heap.size := Nat.le_trans (Nat.le_of_lt hplt2) hB.size
      obtain ⟨ao, cap, rfl⟩ : ∃ ao cap, u3 = .slice ao xs.length cap := by
        rcases hown.2 with ⟨h1, h2⟩ | ⟨g, cap, cur, h1, _⟩
        · exact ⟨none, 0, by rw [h1, h2]⟩
        · exact ⟨_, cap, h1⟩
      have hle : decide (xs.length ≤ r.length) = true := by simp; omega
      rw [odd_all]
      clear hown hit hpos hlt
      cases hcon : s0.contains 39
      · have HC := Lib.hid hcon
        clear hcon
        go_wp2_with (first | (go_at_call 125; (with_reducible refine (must_yes _ _).mono ?_); rintro e w' ⟨rfl, rfl⟩))
        refine (ReplaceAll_pairs 39 r (by omega) _ hGr).mono ?_
        rintro e w5 ⟨rfl, hb5⟩
        go_wp2
        go_ret
        exact ⟨by unfold quoteEnd; rw [HS.out, HC.out]; rfl, hBr.trans (hb5.mono hprt)⟩
      · have HC := Lib.hid hcon
        clear hcon
        go_wp2_with (first | (go_at_call 125; (with_reducible refine (must_no _ _).mono ?_); rintro e w' ⟨rfl, rfl⟩))
        exact ⟨rfl, by unfold quoteEnd; rw [HS.out, HC.out]; rfl, hBr⟩

end Go.Proofs.YtepkfkfedmbmnaaGreatDoor

namespace Go.Proofs.YtepkfkfedmbmnaaGreatDoor
open Go.RowKit
set_option maxRecDepth 100000

theorem Trim_L (l : List UInt8) (hl : l.length ≤ 1000000) (w : World) : Calls Tryz.prog 181 #[S l, S digitsL] w fun e w' => e = .returned (S (Lib.trimS l digitsL)) ∧ Bl w w' :=
  (Tryz.strings_Trim_laid ⟨l.toArray⟩ ⟨digitsL.toArray⟩ w (by rw [size_of_list]; omega) (by decide) (by
    intro j b hb
    have : b ∈ digitsL := List.mem_of_getElem? (show digitsL[j]? = some b from hb)
    simp only [digitsL, List.mem_cons, List.mem_nil_iff, or_false] at this
    rcases this with rfl | rfl | rfl | rfl | rfl | rfl | rfl | rfl | rfl | rfl | rfl | rfl | rfl | rfl | rfl | rfl <;> decide)).mono fun _ _ ⟨he, hw⟩ => ⟨he, hw⟩
theorem IndexByte_L (l : List UInt8) (c : UInt8) (w : World) : Calls Tryz.prog 182 #[S l, .int .u8 c.toNat] w fun e w' => e = .returned (.int .i64 (Lib.indexByte l c)) ∧ w' = w :=
  (Tryz.strings_IndexByte ⟨l.toArray⟩ c.toNat w).mono fun _ _ ⟨he, hw⟩ => ⟨by rw [he]; simp, hw⟩

set_option maxHeartbeats 400000 in
theorem bytes_no (l : List UInt8) (hl : l.length ≤ 1000000) (w : World) (h : ¬ (l.length % 2 = 0 ∧ ∀ c ∈ l, isHex c = true)) :
    Calls Tryz.prog 164 #[S l] w fun e w' => e = .panicked [{ v := .iface 31 (.int .i64 110), recovered := false }] ∧ Bl w w' := by
  by_cases he : l.length % 2 = 0
  · have hb : ((l.length : Int) % 2 == 0) = true := by simp; omega
    have ht : ¬ Lib.trimS l digitsL = [] := fun e => h ⟨he, fun c hc => (trimS_nil_iff l digitsL).1 e c hc⟩
    have HE := Lib.hid he
    clear h he
    go_enter Tryz.func164, Tryz.ntmps164
    go_wp2_with fail
    refine (Trim_L l hl _).mono ?_
    rintro e w1 ⟨rfl, hb1⟩
    generalize Lib.trimS l digitsL = t at *
    have ht' : t.isEmpty = false := by simpa using ht
    go_wp2_with (first | (go_at_call 125; (with_reducible refine (must_no _ _).mono ?_); rintro e w' ⟨rfl, rfl⟩))
    exact ⟨rfl, rfl, hb1⟩
  · have hb : ((l.length : Int) % 2 == 0) = false := by simp; omega
    have HE := Lib.hid he
    clear h he
    go_enter Tryz.func164, Tryz.ntmps164
    go_wp2_with (first | (go_at_call 125; (with_reducible refine (must_no _ _).mono ?_); rintro e w' ⟨rfl, rfl⟩))
    exact ⟨rfl, rfl, Bl.refl _⟩

theorem infoByte : (Tryz.prog.info? 5).map (fun i => (i.zero, i.size, i.bytes)) = some (some (.int .u8 0), 1, 1) := by kernel_rfl

set_option maxHeartbeats 1000000 in
theorem bytes_ok (l : List UInt8) (hl : l.length ≤ 1000000) (w : World) (he : l.length % 2 = 0) (hall : ∀ c ∈ l, isHex c = true) :
    Calls Tryz.prog 164 #[S l] w fun e w' => e = .returned (S (unhex l)) ∧ Bl w w' := by
  have hb : ((l.length : Int) % 2 == 0) = true := by simp; omega
  have ht : Lib.trimS l digitsL = [] := (trimS_nil_iff l digitsL).2 fun c hc => hall c hc
  have HT := Lib.hid ht
  have HE := Lib.hid he
  have HA := Lib.hid hall
  clear ht he hall
  go_enter Tryz.func164, Tryz.ntmps164
  go_wp2_with fail
  refine (Trim_L l hl _).mono ?_
  rintro e w1 ⟨rfl, hb1⟩
  rw [HT.out]
  go_wp2_with (first | (go_at_call 125; (with_reducible refine (must_yes _ _).mono ?_); rintro e w' ⟨rfl, rfl⟩))
  go_loopw [3, 4] (fun v i wr => ∃ m : Nat, m ≤ l.length ∧ Hid (m % 2 = 0) ∧ i = .int .i64 (m : Int) ∧ wr.ownsRow w1.heap.size 5 1 v (Lib.byteCells (unhex (l.take m))).length (Lib.byteCells (unhex (l.take m))) ∧ Bl w1 wr) (fun _ i _ => l.length - (intOf i).toNat)
  case atStart => exact ⟨0, by omega, rfl, rfl, ⟨rfl, .inl ⟨rfl, rfl⟩⟩, Bl.refl _⟩
  case round =>
    obtain ⟨m, hm, HM, rfl, hown, hB⟩ := hrel
    by_cases hlt : m < l.length
    · have hlt1 : m + 1 < l.length := by have := HE.out; have := HM.out; omega
      obtain ⟨a, ha, ca⟩ : ∃ a : Nat, a < 16 ∧ hv (l[m]'hlt) = a := by
        obtain ⟨h0, h1⟩ := hv_range (l[m]'hlt) (HA.out _ (List.getElem_mem ..))
        exact ⟨(hv l[m]).toNat, by omega, by omega⟩
      obtain ⟨b, hb', cb⟩ : ∃ b : Nat, b < 16 ∧ hv (l[m + 1]'hlt1) = b := by
        obtain ⟨h0, h1⟩ := hv_range (l[m + 1]'hlt1) (HA.out _ (List.getElem_mem ..))
        exact ⟨(hv l[m + 1]).toNat, by omega, by omega⟩
      have i1 : ∀ W, Calls Tryz.prog 182 #[.string ⟨#[48, 49, 50, 51, 52, 53, 54, 55, 56, 57, 97, 98, 99, 100, 101, 102]⟩, .int .u8 ((⟨l.toArray⟩ : ByteArray)[m]'(by rw [size_of_list]; exact hlt)).toNat] W fun e w' => e = .returned (.int .i64 (a : Int)) ∧ w' = W := fun W =>
        (IndexByte_L digitsL _ W).mono fun _ _ ⟨he, hw⟩ => ⟨by rw [he, ← ca]; rfl, hw⟩
      have i2 : ∀ W, Calls Tryz.prog 182 #[.string ⟨#[48, 49, 50, 51, 52, 53, 54, 55, 56, 57, 97, 98, 99, 100, 101, 102]⟩, .int .u8 ((⟨l.toArray⟩ : ByteArray)[m + 1]'(by rw [size_of_list]; exact hlt1)).toNat] W fun e w' => e = .returned (.int .i64 (b : Int)) ∧ w' = W := fun W =>
        (IndexByte_L digitsL _ W).mono fun _ _ ⟨he, hw⟩ => ⟨by rw [he, ← cb]; rfl, hw⟩
      have I1 := Lib.hid i1
      have I2 := Lib.hid i2
      have CA := Lib.hid ca
      have CB := Lib.hid cb
      have hor := or_digits ⟨a, ha⟩ ⟨b, hb'⟩
      clear i1 i2 ca cb
      obtain ⟨i0, hi, hz0, hz1, hz2⟩ := info_parts infoByte
      have hul := unhex_length (l.take m)
      have hul2 : (l.take m).length ≤ 1000000 := by simp; omega
      have hln1 : (Lib.byteCells (unhex (l.take m))).length + 1 ≤ maxLen := by rw [Lib.byteCells_length]; unfold maxLen; omega
      have hln2 : ((Lib.byteCells (unhex (l.take m))).length + 1) * 1 ≤ 140737488355328 := by rw [Lib.byteCells_length]; omega
      have hln3 : w1.heap.size ≤ ((wr.alloc (.cells #[.int .u8 ((a : Int) * 16 + (b : Int))] 5)).drew).heap.size := by have := hB.size; simp; omega
      have x1 : IntKind.i64.wrap ((m : Int) + 1) = (m : Int) + 1 := IntWalk.i64_in _ (by omega)
      have x2 : ((m : Int) + 1).toNat = m + 1 := by omega
      have x3 : 0 ≤ (m : Int) + 1 ∧ (m : Int) + 1 < (l.length : Int) := by omega
      have x4 : IntKind.i64.wrap ((a : Int) * 16) = (a : Int) * 16 := IntWalk.i64_in _ (by omega)
      have x5 : IntKind.u8.wrap ((a : Int) * 16 + (b : Int)) = (a : Int) * 16 + (b : Int) := by simp [IntKind.wrap, IntKind.bits, IntKind.signed]; omega
      go_wp2_with fail
      go_region_held3 (fun _ => True) (trivial)
        (first
          | ((with_reducible refine (I1.out _).mono ?_); rintro e w' ⟨rfl, rfl⟩)
          | ((with_reducible refine (I2.out _).mono ?_); rintro e w' ⟨rfl, rfl⟩)
          | (refine step_append_lies _ (by rfl) _ _ _ (by rfl) w1.heap.size 5 i0 _ 1 1 Tryz.underlying130 hi hz0 hz1 hz2 rfl (by omega) u3 _ _ (by rfl) ((hown.alloc _).drew) ⟨wr.heap.size, 0, none⟩ 1 1 [.int .u8 ((a : Int) * 16 + (b : Int))] (by rfl) (by rfl) (World.news_of_block (cs := #[.int .u8 ((a : Int) * 16 + (b : Int))]) (t := 5) (fr := (0, 0)) (heap_new wr _)) (by simp [Value.oneCell']) (by omega) hln1 hln2 hln3 (wr.heap.size + 1) (by simp) ?_; intro gg cap w3 hown3 hgrow hat hlt3))
      all_goals
        have _k := x3
        clear x4 x5 hor
        go_wp2
        go_roundw
        case rel =>
          refine ⟨m + 2, by omega, by have := HM.out; show (m + 2) % 2 = 0; omega, by go_num, ?_, ?_⟩
          · have e : Lib.byteCells (unhex (l.take (m + 2))) = Lib.byteCells (unhex (l.take m)) ++ [.int .u8 ((a : Int) * 16 + (b : Int))] := by
              rw [unhex_take l m HM.out hlt hlt1, Lib.byteCells_append, CA.out, CB.out]
              congr 1
              simp only [Lib.byteCells, List.map_cons, List.map_nil]
              have : ((16 * (a : Int) + (b : Int)).toNat) % 256 = 16 * a + b := by omega
              simp only [UInt8.toNat_ofNat', this]
              congr 2
              omega
            rw [e]
            simpa using hown3
          · exact Below.grown (Bl.drew (Bl.alloc hB _)) hgrow (by have := hB.size; simp; omega) (fun k hk => (hown.lt k hk).1)
        case measure => simp [intOf]; omega
    · obtain rfl : m = l.length := by omega
      rw [List.take_length] at hown
      rcases hown.2 with ⟨rfl, h2⟩ | ⟨g, cap, cur, rfl, hg, hcur, _⟩
      · have hu : unhex l = [] := by simpa [Lib.byteCells] using h2
        have hcv := run_convert_bytes_nil (P := Tryz.prog) wr 130 5 Tryz.underlying130 Tryz.underlying5 0 0 9 Tryz.underlying9
        have HU := Lib.hid hu
        clear hu h2 hown
        go_wp2
        go_ret
        exact ⟨by rw [HU.out]; rfl, hb1.call hB⟩
      · have hcv := run_convert_bytes_back (P := Tryz.prog) wr 130 9 5 ⟨g, 0, none⟩ cap (unhex l) Tryz.underlying130 Tryz.underlying5 Tryz.underlying9 (by
          intro j hj
          have := hown.cellAt j (by simp [Lib.byteCells_length]; exact hj)
          rw [show (⟨g, 0, none⟩ : Addr).add j = ⟨g, j, none⟩ by simp [Addr.add]; omega, this]
          simp [Lib.byteCells, List.getElem?_eq_getElem hj])
        rw [Lib.byteCells_length] at *
        clear hown hcur
        go_wp2
        go_ret
        exact ⟨rfl, hb1.call hB⟩

end Go.Proofs.YtepkfkfedmbmnaaGreatDoor

namespace Go.Proofs.YtepkfkfedmbmnaaGreatDoor
open Go.RowKit
set_option maxRecDepth 100000

def nameT (t : Nat) : List UInt8 := lit (ofK t) (ofN t) []
def isName (s : List UInt8) : Option (Int × Int) := if nameT 0 = s then some (1, 0) else if nameT 1 = s then some (1, 1) else if nameT 2 = s then some (0, 0) else none
def readNum (s : List UInt8) : Option Int := match Lib.parseIntB 64 s with
  | .ok n => if Lib.itoa n = s then some n else none
  | _ => none
def hexAll (q : List UInt8) : Prop := q.length % 2 = 0 ∧ ∀ c ∈ q, isHex c = true
instance (q : List UInt8) : Decidable (hexAll q) := by unfold hexAll; infer_instance
def readRest (s : List UInt8) : Option (Int × List UInt8) :=
  if Lib.hasPrefix s [120] then (unq (Lib.trimPrefix s [120])).bind fun q => if hexAll q then some (4, unhex q) else none
  else (unq s).map fun q => (3, q)
/-- What a literal is read as: its kind, its number, its text. -/
def readV (s : List UInt8) : Option (Int × Int × List UInt8) :=
  match isName s with
  | some (k, n) => some (k, n, [])
  | none => match readNum s with
    | some n => some (2, n, [])
    | none => (readRest s).map fun x => (x.1, 0, x.2)
def readEnd (s : List UInt8) : Ending := match readV s with
  | some (k, n, l) => .returned (V k n l)
  | none => .panicked [{ v := .iface 31 (.int .i64 110), recovered := false }]

theorem chk_of (t : Nat) : chk (ofK t) (ofN t) [] = 0 := by
  unfold ofK ofN
  split
  · rename_i h
    rcases h with h | h <;> rw [h] <;> decide
  · decide

theorem isName_of {s : List UInt8} (t : Nat) (ht : t < 3) (hne : ∀ j, j < t → nameT j ≠ s) (he : nameT t = s) : isName s = some (ofK t, ofN t) := by
  have h3 : t = 0 ∨ t = 1 ∨ t = 2 := by omega
  rcases h3 with rfl | rfl | rfl
  · simp [isName, he]; decide
  · simp [isName, he, hne 0 (by omega)]; decide
  · simp [isName, he, hne 0 (by omega), hne 1 (by omega)]; decide
theorem isName_none {s : List UInt8} (hne : ∀ j, j < 3 → nameT j ≠ s) : isName s = none := by
  simp [isName, hne 0 (by omega), hne 1 (by omega), hne 2 (by omega)]
theorem readEnd_name {s : List UInt8} {k n : Int} (h : isName s = some (k, n)) : Ending.returned (V k n []) = readEnd s := by
  simp [readEnd, readV, h]

theorem Bl.bytes (w : World) (e : TypeId) (t : ByteArray) : Bl w (Lib.bytesWorld w e t) :=
  ⟨rfl, rfl, rfl, by rw [Lib.bytesWorld_size]; omega, fun k hk => Lib.bytesWorld_at_old w e t k hk⟩
theorem ParseInt_ok (s : List UInt8) (hs : s.length ≤ 10000) (v : Int) (h : Lib.parseIntB 64 s = .ok v) (w : World) :
    Calls Tryz.prog 162 #[S s, .int .i64 10, .int .i64 64] w fun e w' => e = .returned (.tuple #[.int .i64 v, .nilIface]) ∧ Bl w w' := by
  refine (Tryz.strconv_ParseInt_10_at64_ok ⟨s.toArray⟩ (by rw [size_of_list]; omega) v h w).mono ?_
  rintro e w' ⟨rfl, rfl | ⟨t, rfl⟩⟩
  · exact ⟨rfl, Bl.refl _⟩
  · exact ⟨rfl, Bl.bytes _ _ _⟩

def NumErr (w : World) (e : Ending) (w' : World) : Prop := ∃ (x : Int) (N : Nat), e = .returned (.tuple #[.int .i64 x, .iface 227 (.pointer (some ⟨N, 0, none⟩))]) ∧ Bl w w'
theorem ParseInt_no (s : List UInt8) (hs : s.length ≤ 10000) (h : ∀ v, Lib.parseIntB 64 s ≠ .ok v) (w : World) (hG : Glob w) :
    Calls Tryz.prog 162 #[S s, .int .i64 10, .int .i64 64] w (NumErr w) := by
  cases hp : Lib.parseIntB 64 s with
  | ok v => exact absurd hp (h v)
  | range =>
    obtain ⟨tp, p, hv⟩ := hG.rng
    refine (Any.strconv_ParseInt_10_at64_range_var Tryz.laysC174 ⟨s.toArray⟩ (by rw [size_of_list]; omega) hp tp p w hv).mono ?_
    rintro e w' ⟨N, he, _, _, hb⟩
    exact ⟨_, N, he, hb⟩
  | _ =>
    obtain ⟨tp, p, hv⟩ := hG.syn
    refine (Any.strconv_ParseInt_10_at64_syntax_var Tryz.laysC174 ⟨s.toArray⟩ (by rw [size_of_list]; omega) hp tp p w hv).mono ?_
    rintro e w' ⟨N, he, _, _, hb⟩
    exact ⟨_, N, he, hb⟩

theorem quotes_some {s q : List UInt8} (hs : s.length ≤ 10000) (h : unq s = some q) (wN W : World) (hG : Glob wN) (hW : Bl wN W) (hc : W.cell? ⟨wN.heap.size, 0, none⟩ = some (S s)) (hz : W.frozen? ⟨wN.heap.size, 0, none⟩ = false) :
    Calls Tryz.prog 165 #[.pointer (some ⟨wN.heap.size, 0, none⟩)] W fun e w' => e = .returned (S q) ∧ Bl wN w' := by
  unfold unq at h
  cases hq : cutQ s with
  | none => rw [hq] at h; cases h
  | some r =>
    rw [hq] at h
    simp only [Option.bind_some] at h
    refine (quotes_cut ⟨wN.heap.size, 0, none⟩ s r (by omega) wN W hG hW (Nat.le_refl _) hc hz hq).mono ?_
    rintro e w' ⟨rfl, hb⟩
    refine ⟨?_, hW.trans hb⟩
    unfold quoteEnd
    split at h
    · cases h
    · rename_i hn; rw [if_neg hn]; injection h with h; rw [h]
theorem quotes_none {s : List UInt8} (hs : s.length ≤ 10000) (h : unq s = none) (wN W : World) (hG : Glob wN) (hW : Bl wN W) (hc : W.cell? ⟨wN.heap.size, 0, none⟩ = some (S s)) (hz : W.frozen? ⟨wN.heap.size, 0, none⟩ = false) :
    Calls Tryz.prog 165 #[.pointer (some ⟨wN.heap.size, 0, none⟩)] W fun e w' => e = .panicked [{ v := .iface 31 (.int .i64 110), recovered := false }] ∧ Bl wN w' := by
  unfold unq at h
  cases hq : cutQ s with
  | none =>
    refine (quotes_cut_no ⟨wN.heap.size, 0, none⟩ s (by omega) W hc hq).mono ?_
    rintro e w' ⟨rfl, rfl⟩
    exact ⟨rfl, hW⟩
  | some r =>
    rw [hq] at h
    simp only [Option.bind_some] at h
    refine (quotes_cut ⟨wN.heap.size, 0, none⟩ s r (by omega) wN W hG hW (Nat.le_refl _) hc hz hq).mono ?_
    rintro e w' ⟨rfl, hb⟩
    refine ⟨?_, hW.trans hb⟩
    unfold quoteEnd
    split at h
    · rename_i hn; rw [if_pos hn]
    · cases h
theorem unq_length {s q : List UInt8} (h : unq s = some q) : q.length ≤ s.length := by
  unfold unq at h
  cases hq : cutQ s with
  | none => rw [hq] at h; cases h
  | some r =>
    rw [hq] at h
    simp only [Option.bind_some] at h
    split at h
    · cases h
    · injection h with h
      have := cutQ_length hq
      have := pairs_length 39 r.length r (Nat.le_refl _)
      rw [← h]; omega

theorem int64_of_parse {s : List UInt8} {v : Int} (h : Lib.parseIntB 64 s = .ok v) : -9223372036854775808 ≤ v ∧ v ≤ 9223372036854775807 := by
  have := Lib.parseIntB_bounds h
  simp at this
  omega

theorem readEnd_num {s : List UInt8} {v : Int} (h : isName s = none) (hp : Lib.parseIntB 64 s = .ok v) (hi : Lib.itoa v = s) : Ending.returned (V 2 v []) = readEnd s := by
  simp [readEnd, readV, h, readNum, hp, hi]
theorem readNum_off {s : List UInt8} {v : Int} (hp : Lib.parseIntB 64 s = .ok v) (hi : ¬ Lib.itoa v = s) : readNum s = none := by
  simp [readNum, hp, hi]
theorem readNum_no {s : List UInt8} (hp : ∀ v, Lib.parseIntB 64 s ≠ .ok v) : readNum s = none := by
  unfold readNum
  split
  · rename_i v hv; exact absurd hv (hp v)
  · rfl
theorem readEnd_some {s : List UInt8} {k : Int} {l : List UInt8} (h : isName s = none) (hn : readNum s = none) (hr : readRest s = some (k, l)) : Ending.returned (V k 0 l) = readEnd s := by
  simp [readEnd, readV, h, hn, hr]
theorem readEnd_none {s : List UInt8} (h : isName s = none) (hn : readNum s = none) (hr : readRest s = none) : Ending.panicked [{ v := .iface 31 (.int .i64 110), recovered := false }] = readEnd s := by
  simp [readEnd, readV, h, hn, hr]

set_option maxHeartbeats 2000000 in
theorem read_any (s : List UInt8) (hs : s.length ≤ 10000) (w : World) (hG : Glob w) : Calls Tryz.prog 138 #[S s] w fun e w' => e = readEnd s ∧ Bl w w' := by
  go_enter Tryz.func138, Tryz.ntmps138
  go_wp2_with fail
  go_loopw [3] (fun i wr => ∃ t : Nat, t ≤ 3 ∧ i = .int .i64 (t : Int) ∧ Hid (∀ j, j < t → nameT j ≠ s) ∧ Bl w wr ∧ wr.heap[w.heap.size]? = some (.cells #[.int .i64 0, .int .i64 0, S []] 26 (0, 0))) (fun i _ => 3 - (intOf i).toNat)
  case atStart => exact ⟨0, by omega, rfl, fun j hj => by omega, (Bl.refl w).alloc _, heap_new w _⟩
  case round =>
    obtain ⟨t, ht, rfl, HN, hB, hres⟩ := hrel
    by_cases hlt : t < 3
    · have hGr := hG.bl hB
      go_wp2_with fail
      refine (Of_any (t : Int) (by omega) (by omega) _).mono ?_
      rintro e w1 ⟨rfl, hb1⟩
      have hc := chk_of t
      generalize hk : ofK (t : Int) = k at *
      generalize hn : ofN (t : Int) = n at *
      have HK := Lib.hid hk
      have HNn := Lib.hid hn
      have HC := Lib.hid hc
      clear hk hn hc
      obtain ⟨_, k0, k4⟩ := chk_cases HC.out
      have hn0 : -9223372036854775808 ≤ n := by rw [← HNn.out]; unfold ofN; split <;> omega
      have hn1 : n ≤ 9223372036854775807 := by rw [← HNn.out]; unfold ofN; split <;> omega
      have N0 := Lib.hid hn0
      have N1 := Lib.hid hn1
      clear hn0 hn1
      go_wp2_with fail
      have bW : Bl w1 (w1.alloc (.cells #[.int .i64 k, .int .i64 n, .string ⟨#[]⟩] 26)) := (Bl.refl w1).alloc _
      have c0 : (w1.alloc (.cells #[.int .i64 k, .int .i64 n, .string ⟨#[]⟩] 26)).cell? ⟨w1.heap.size, 0, none⟩ = some (.int .i64 k) := by simp [go_sem]
      have c1 : (w1.alloc (.cells #[.int .i64 k, .int .i64 n, .string ⟨#[]⟩] 26)).cell? ⟨w1.heap.size, 1, none⟩ = some (.int .i64 n) := by simp [go_sem]
      have c2 : (w1.alloc (.cells #[.int .i64 k, .int .i64 n, .string ⟨#[]⟩] 26)).cell? ⟨w1.heap.size, 2, none⟩ = some (.string ⟨#[]⟩) := by simp [go_sem]
      generalize w1.alloc (.cells #[.int .i64 k, .int .i64 n, .string ⟨#[]⟩] 26) = W at *
      have hlook : (Instr.lookup 161 (.map (some W.heap.size)) (.int .i64 k) false).run Tryz.prog ((W.alloc (.map lAll 5)).drew) = .ok (.func (.func (laidF k)) #[] #[]) ((W.alloc (.map lAll 5)).drew) :=
        look_laid (w := (W.alloc (.map lAll 5)).drew) (heap_new W (.map lAll 5)) k0 k4
      have hen := enters_laidF k
      have hbW : Bl W ((W.alloc (.map lAll 5)).drew) := ((Bl.refl W).alloc _).drew
      have hbWr : Bl wr W := hb1.call bW
      have hG2 := (hGr.bl hbWr).bl hbW
      clear k0 k4
      go_region_held3 (fun w' => w'.cell? ⟨w1.heap.size, 0, none⟩ = some (.int .i64 k) ∧ w'.cell? ⟨w1.heap.size, 1, none⟩ = some (.int .i64 n) ∧ w'.cell? ⟨w1.heap.size, 2, none⟩ = some (.string ⟨#[]⟩)) (first | exact ⟨c0, c1, c2⟩ | exact ⟨d0, d1, d2⟩ | go_keep)
        (first
          | (go_at_call 122; (with_reducible refine (laid_any _).mono ?_); rintro e w2 ⟨rfl, rfl⟩)
          | ((with_reducible refine (tells_any k n [] HC.out N0.out N1.out _ hG2).mono ?_); rintro e w3 ⟨rfl, hb3⟩; have d0 := Bl.cell hb3 (Bl.cell hbW c0); have d1 := Bl.cell hb3 (Bl.cell hbW c1); have d2 := Bl.cell hb3 (Bl.cell hbW c2)))
      have hbw3 : Bl wr w3 := (hbWr.call hbW).call hb3
      have hlw : w.heap.size < wr.heap.size := (Array.getElem?_eq_some_iff.1 hres).1
      have hres3 : w3.heap[w.heap.size]? = some (.cells #[.int .i64 0, .int .i64 0, S []] 26 (0, 0)) := (hbw3.block _ hlw).trans hres
      have r0 : w3.cell? ⟨w.heap.size, 0, none⟩ = some (.int .i64 0) := by rw [Lib.cell_of_heap hres3]; rfl
      have r1 : w3.cell? ⟨w.heap.size, 1, none⟩ = some (.int .i64 0) := by rw [Lib.cell_of_heap hres3]; rfl
      have r2 : w3.cell? ⟨w.heap.size, 2, none⟩ = some (S []) := by rw [Lib.cell_of_heap hres3]; rfl
      have z0 := Lib.frozen_of_heap hres3 0
      have z1 := Lib.frozen_of_heap hres3 1
      have z2 := Lib.frozen_of_heap hres3 2
      go_wp2
      · have hq : lit k n [] = s := by simpa using ‹(lit k n [] == s) = true›
        have y0 := set_far (p := ⟨w.heap.size, 2, none⟩) (u := .string ⟨#[]⟩) (set_far (p := ⟨w.heap.size, 1, none⟩) (u := .int .i64 n) (set_same (u := .int .i64 k) r0) (by simp)) (by simp)
        have y1 := set_far (p := ⟨w.heap.size, 2, none⟩) (u := .string ⟨#[]⟩) (set_same (u := .int .i64 n) (set_far (p := ⟨w.heap.size, 0, none⟩) (u := .int .i64 k) r1 (by simp))) (by simp)
        have y2 := set_same (u := .string ⟨#[]⟩) (set_far (p := ⟨w.heap.size, 1, none⟩) (u := .int .i64 n) (set_far (p := ⟨w.heap.size, 0, none⟩) (u := .int .i64 k) r2 (by simp)) (by simp))
        refine bodyPost_ret (v := V k n []) (by simp [results, Tryz.results138, go_sem, y0, y1, y2]) rfl ⟨readEnd_name ?_, (((hB.call hbw3).set (Nat.le_refl _) _).set (Nat.le_refl _) _).set (Nat.le_refl _) _⟩
        have := isName_of t hlt HN.out (by unfold nameT; rw [HK.out, HNn.out]; exact hq)
        rw [this, HK.out, HNn.out]
      · have hq : ¬ lit k n [] = s := by simpa using ‹(lit k n [] == s) = false›
        go_roundw
        case rel =>
          refine ⟨t + 1, by omega, by go_num, ?_, hB.call hbw3, hres3⟩
          intro j hj
          by_cases hjt : j < t
          · exact HN.out j hjt
          · obtain rfl : j = t := by omega
            unfold nameT; rw [HK.out, HNn.out]; exact hq
        case measure => simp [intOf]; omega
    · obtain rfl : t = 3 := by omega
      have hnone := isName_none HN.out
      have HNO := Lib.hid hnone
      clear hnone HN
      have hGr := hG.bl hB
      have hlw : w.heap.size < wr.heap.size := (Array.getElem?_eq_some_iff.1 hres).1
      go_wp2_with fail
      by_cases hp : ∃ v, Lib.parseIntB 64 s = .ok v
      · obtain ⟨v, hv⟩ := hp
        obtain ⟨v0, v1⟩ := int64_of_parse hv
        refine (ParseInt_ok s hs v hv _).mono ?_
        rintro e w2 ⟨rfl, hb2⟩
        have PV := Lib.hid hv
        clear hv
        go_wp2_with fail
        refine (Tryz.strconv_FormatInt_10 v v0 v1 _ (hGr.bl hb2).pow).mono ?_
        rintro e w3 ⟨rfl, j, os, hw3⟩
        have hb3 : Bl wr w3 := hb2.call (by rw [hw3]; exact Bl.regrown _ _ _)
        clear hw3 hb2
        have hres3 : w3.heap[w.heap.size]? = some (.cells #[.int .i64 0, .int .i64 0, S []] 26 (0, 0)) := (hb3.block _ hlw).trans hres
        have r0 : w3.cell? ⟨w.heap.size, 0, none⟩ = some (.int .i64 0) := by rw [Lib.cell_of_heap hres3]; rfl
        have r1 : w3.cell? ⟨w.heap.size, 1, none⟩ = some (.int .i64 0) := by rw [Lib.cell_of_heap hres3]; rfl
        have r2 : w3.cell? ⟨w.heap.size, 2, none⟩ = some (S []) := by rw [Lib.cell_of_heap hres3]; rfl
        have z0 := Lib.frozen_of_heap hres3 0
        have z1 := Lib.frozen_of_heap hres3 1
        have z2 := Lib.frozen_of_heap hres3 2
        go_wp2_with fail
        · have hq : Lib.itoa v = s := by simpa using ‹(Lib.itoa v == s) = true›
          have y0 := set_far (p := ⟨w.heap.size, 2, none⟩) (u := .string ⟨#[]⟩) (set_far (p := ⟨w.heap.size, 1, none⟩) (u := .int .i64 v) (set_same (u := .int .i64 2) r0) (by simp)) (by simp)
          have y1 := set_far (p := ⟨w.heap.size, 2, none⟩) (u := .string ⟨#[]⟩) (set_same (u := .int .i64 v) (set_far (p := ⟨w.heap.size, 0, none⟩) (u := .int .i64 2) r1 (by simp))) (by simp)
          have y2 := set_same (u := .string ⟨#[]⟩) (set_far (p := ⟨w.heap.size, 1, none⟩) (u := .int .i64 v) (set_far (p := ⟨w.heap.size, 0, none⟩) (u := .int .i64 2) r2 (by simp)) (by simp))
          refine bodyPost_ret (v := V 2 v []) (by simp [results, Tryz.results138, go_sem, y0, y1, y2]) rfl ⟨readEnd_num HNO.out PV.out hq, ((((hB.call hb3)).set (Nat.le_refl _) _).set (Nat.le_refl _) _).set (Nat.le_refl _) _⟩
        · have hq : ¬ Lib.itoa v = s := by simpa using ‹(Lib.itoa v == s) = false›
          have NUM := Lib.hid (readNum_off PV.out hq)
          clear hq r0 r1 r2 z0 z1 z2
          refine (CutPrefix_L s [120] _).mono ?_
          rintro e w4 ⟨rfl, rfl⟩
          have hG3 := hGr.bl hb3
          have hb30 := hB.call hb3
          cases hx : Lib.hasPrefix s [120]
          · have HX := Lib.hid hx
            have htp : Lib.trimPrefix s [120] = s := by simp [Lib.trimPrefix, hx]
            rw [htp]
            clear hx htp
            go_wp2_with fail
            cases hu : unq s with
            | none =>
              have HU := Lib.hid hu
              clear hu
              refine (quotes_none hs HU.out w3 _ hG3 ((Bl.refl w3).alloc _) (by simp [go_sem]) (by simp [go_sem])).mono ?_
              rintro e w5 ⟨rfl, hb5⟩
              exact ⟨rfl, readEnd_none HNO.out NUM.out (by unfold readRest; rw [HX.out]; simp [HU.out]), hb30.call hb5⟩
            | some q =>
              have HU := Lib.hid hu
              clear hu
              refine (quotes_some hs HU.out w3 _ hG3 ((Bl.refl w3).alloc _) (by simp [go_sem]) (by simp [go_sem])).mono ?_
              rintro e w5 ⟨rfl, hb5⟩
              have hb35 := hb3.call hb5
              have hres5 : w5.heap[w.heap.size]? = some (.cells #[.int .i64 0, .int .i64 0, S []] 26 (0, 0)) := (hb35.block _ hlw).trans hres
              have r0 : w5.cell? ⟨w.heap.size, 0, none⟩ = some (.int .i64 0) := by rw [Lib.cell_of_heap hres5]; rfl
              have r1 : w5.cell? ⟨w.heap.size, 1, none⟩ = some (.int .i64 0) := by rw [Lib.cell_of_heap hres5]; rfl
              have r2 : w5.cell? ⟨w.heap.size, 2, none⟩ = some (S []) := by rw [Lib.cell_of_heap hres5]; rfl
              have z0 := Lib.frozen_of_heap hres5 0
              have z1 := Lib.frozen_of_heap hres5 1
              have z2 := Lib.frozen_of_heap hres5 2
              go_wp2
              have y0 := set_far (p := ⟨w.heap.size, 2, none⟩) (u := S q) (set_far (p := ⟨w.heap.size, 1, none⟩) (u := .int .i64 0) (set_same (u := .int .i64 3) r0) (by simp)) (by simp)
              have y1 := set_far (p := ⟨w.heap.size, 2, none⟩) (u := S q) (set_same (u := .int .i64 0) (set_far (p := ⟨w.heap.size, 0, none⟩) (u := .int .i64 3) r1 (by simp))) (by simp)
              have y2 := set_same (u := S q) (set_far (p := ⟨w.heap.size, 1, none⟩) (u := .int .i64 0) (set_far (p := ⟨w.heap.size, 0, none⟩) (u := .int .i64 3) r2 (by simp)) (by simp))
              refine bodyPost_ret (v := V 3 0 q) (by simp [results, Tryz.results138, go_sem, y0, y1, y2]) rfl ⟨readEnd_some HNO.out NUM.out (by unfold readRest; rw [HX.out]; simp [HU.out]), ((((hb30.call hb5)).set (Nat.le_refl _) _).set (Nat.le_refl _) _).set (Nat.le_refl _) _⟩
          · have HX := Lib.hid hx
            have htl := trimPrefix_length s [120]
            generalize htp : Lib.trimPrefix s [120] = x at *
            have HT := Lib.hid htp
            clear hx htp
            go_wp2_with fail
            cases hu : unq x with
            | none =>
              have HU := Lib.hid hu
              clear hu
              refine (quotes_none (by omega) HU.out w3 _ hG3 ((Bl.refl w3).alloc _) (by simp [go_sem]) (by simp [go_sem])).mono ?_
              rintro e w5 ⟨rfl, hb5⟩
              exact ⟨rfl, readEnd_none HNO.out NUM.out (by unfold readRest; rw [HX.out, HT.out]; simp [HU.out]), hb30.call hb5⟩
            | some q =>
              have HU := Lib.hid hu
              have hql := unq_length hu
              clear hu
              refine (quotes_some (by omega) HU.out w3 _ hG3 ((Bl.refl w3).alloc _) (by simp [go_sem]) (by simp [go_sem])).mono ?_
              rintro e w5 ⟨rfl, hb5⟩
              go_wp2_with fail
              by_cases hh : hexAll q
              · have HH := Lib.hid hh
                clear hh
                refine (bytes_ok q (by omega) _ HH.out.1 HH.out.2).mono ?_
                rintro e w6 ⟨rfl, hb6⟩
                have hb36 := (hb3.call hb5).call hb6
                have hres6 : w6.heap[w.heap.size]? = some (.cells #[.int .i64 0, .int .i64 0, S []] 26 (0, 0)) := (hb36.block _ hlw).trans hres
                have r0 : w6.cell? ⟨w.heap.size, 0, none⟩ = some (.int .i64 0) := by rw [Lib.cell_of_heap hres6]; rfl
                have r1 : w6.cell? ⟨w.heap.size, 1, none⟩ = some (.int .i64 0) := by rw [Lib.cell_of_heap hres6]; rfl
                have r2 : w6.cell? ⟨w.heap.size, 2, none⟩ = some (S []) := by rw [Lib.cell_of_heap hres6]; rfl
                have z0 := Lib.frozen_of_heap hres6 0
                have z1 := Lib.frozen_of_heap hres6 1
                have z2 := Lib.frozen_of_heap hres6 2
                go_wp2
                have y0 := set_far (p := ⟨w.heap.size, 2, none⟩) (u := S (unhex q)) (set_far (p := ⟨w.heap.size, 1, none⟩) (u := .int .i64 0) (set_same (u := .int .i64 4) r0) (by simp)) (by simp)
                have y1 := set_far (p := ⟨w.heap.size, 2, none⟩) (u := S (unhex q)) (set_same (u := .int .i64 0) (set_far (p := ⟨w.heap.size, 0, none⟩) (u := .int .i64 4) r1 (by simp))) (by simp)
                have y2 := set_same (u := S (unhex q)) (set_far (p := ⟨w.heap.size, 1, none⟩) (u := .int .i64 0) (set_far (p := ⟨w.heap.size, 0, none⟩) (u := .int .i64 4) r2 (by simp)) (by simp))
                refine bodyPost_ret (v := V 4 0 (unhex q)) (by simp [results, Tryz.results138, go_sem, y0, y1, y2]) rfl ⟨readEnd_some HNO.out NUM.out (by unfold readRest; rw [HX.out, HT.out]; simp [HU.out, HH.out]), (((((hb30.call hb5).call hb6)).set (Nat.le_refl _) _).set (Nat.le_refl _) _).set (Nat.le_refl _) _⟩
              · have HH := Lib.hid hh
                clear hh
                refine (bytes_no q (by omega) _ HH.out).mono ?_
                rintro e w6 ⟨rfl, hb6⟩
                exact ⟨rfl, readEnd_none HNO.out NUM.out (by unfold readRest; rw [HX.out, HT.out]; simp [HU.out, HH.out]), (hb30.call hb5).call hb6⟩
      · have hp' : ∀ v, Lib.parseIntB 64 s ≠ .ok v := fun v h => hp ⟨v, h⟩
        have NUM := Lib.hid (readNum_no hp')
        refine (ParseInt_no s hs hp' _ hGr).mono ?_
        rintro e w3 ⟨x0, N, rfl, hb3⟩
        clear hp hp'
        go_wp2_with fail
        refine (CutPrefix_L s [120] _).mono ?_
        rintro e w4 ⟨rfl, rfl⟩
        have hG3 := hGr.bl hb3
        have hb30 := hB.call hb3
        cases hx : Lib.hasPrefix s [120]
        · have HX := Lib.hid hx
          have htp : Lib.trimPrefix s [120] = s := by simp [Lib.trimPrefix, hx]
          rw [htp]
          clear hx htp
          go_wp2_with fail
          cases hu : unq s with
          | none =>
            have HU := Lib.hid hu
            clear hu
            refine (quotes_none hs HU.out w3 _ hG3 ((Bl.refl w3).alloc _) (by simp [go_sem]) (by simp [go_sem])).mono ?_
            rintro e w5 ⟨rfl, hb5⟩
            exact ⟨rfl, readEnd_none HNO.out NUM.out (by unfold readRest; rw [HX.out]; simp [HU.out]), hb30.call hb5⟩
          | some q =>
            have HU := Lib.hid hu
            clear hu
            refine (quotes_some hs HU.out w3 _ hG3 ((Bl.refl w3).alloc _) (by simp [go_sem]) (by simp [go_sem])).mono ?_
            rintro e w5 ⟨rfl, hb5⟩
            have hb35 := hb3.call hb5
            have hres5 : w5.heap[w.heap.size]? = some (.cells #[.int .i64 0, .int .i64 0, S []] 26 (0, 0)) := (hb35.block _ hlw).trans hres
            have r0 : w5.cell? ⟨w.heap.size, 0, none⟩ = some (.int .i64 0) := by rw [Lib.cell_of_heap hres5]; rfl
            have r1 : w5.cell? ⟨w.heap.size, 1, none⟩ = some (.int .i64 0) := by rw [Lib.cell_of_heap hres5]; rfl
            have r2 : w5.cell? ⟨w.heap.size, 2, none⟩ = some (S []) := by rw [Lib.cell_of_heap hres5]; rfl
            have z0 := Lib.frozen_of_heap hres5 0
            have z1 := Lib.frozen_of_heap hres5 1
            have z2 := Lib.frozen_of_heap hres5 2
            go_wp2
            have y0 := set_far (p := ⟨w.heap.size, 2, none⟩) (u := S q) (set_far (p := ⟨w.heap.size, 1, none⟩) (u := .int .i64 0) (set_same (u := .int .i64 3) r0) (by simp)) (by simp)
            have y1 := set_far (p := ⟨w.heap.size, 2, none⟩) (u := S q) (set_same (u := .int .i64 0) (set_far (p := ⟨w.heap.size, 0, none⟩) (u := .int .i64 3) r1 (by simp))) (by simp)
            have y2 := set_same (u := S q) (set_far (p := ⟨w.heap.size, 1, none⟩) (u := .int .i64 0) (set_far (p := ⟨w.heap.size, 0, none⟩) (u := .int .i64 3) r2 (by simp)) (by simp))
            refine bodyPost_ret (v := V 3 0 q) (by simp [results, Tryz.results138, go_sem, y0, y1, y2]) rfl ⟨readEnd_some HNO.out NUM.out (by unfold readRest; rw [HX.out]; simp [HU.out]), ((((hb30.call hb5)).set (Nat.le_refl _) _).set (Nat.le_refl _) _).set (Nat.le_refl _) _⟩
        · have HX := Lib.hid hx
          have htl := trimPrefix_length s [120]
          generalize htp : Lib.trimPrefix s [120] = x at *
          have HT := Lib.hid htp
          clear hx htp
          go_wp2_with fail
          cases hu : unq x with
          | none =>
            have HU := Lib.hid hu
            clear hu
            refine (quotes_none (by omega) HU.out w3 _ hG3 ((Bl.refl w3).alloc _) (by simp [go_sem]) (by simp [go_sem])).mono ?_
            rintro e w5 ⟨rfl, hb5⟩
            exact ⟨rfl, readEnd_none HNO.out NUM.out (by unfold readRest; rw [HX.out, HT.out]; simp [HU.out]), hb30.call hb5⟩
          | some q =>
            have HU := Lib.hid hu
            have hql := unq_length hu
            clear hu
            refine (quotes_some (by omega) HU.out w3 _ hG3 ((Bl.refl w3).alloc _) (by simp [go_sem]) (by simp [go_sem])).mono ?_
            rintro e w5 ⟨rfl, hb5⟩
            go_wp2_with fail
            by_cases hh : hexAll q
            · have HH := Lib.hid hh
              clear hh
              refine (bytes_ok q (by omega) _ HH.out.1 HH.out.2).mono ?_
              rintro e w6 ⟨rfl, hb6⟩
              have hb36 := (hb3.call hb5).call hb6
              have hres6 : w6.heap[w.heap.size]? = some (.cells #[.int .i64 0, .int .i64 0, S []] 26 (0, 0)) := (hb36.block _ hlw).trans hres
              have r0 : w6.cell? ⟨w.heap.size, 0, none⟩ = some (.int .i64 0) := by rw [Lib.cell_of_heap hres6]; rfl
              have r1 : w6.cell? ⟨w.heap.size, 1, none⟩ = some (.int .i64 0) := by rw [Lib.cell_of_heap hres6]; rfl
              have r2 : w6.cell? ⟨w.heap.size, 2, none⟩ = some (S []) := by rw [Lib.cell_of_heap hres6]; rfl
              have z0 := Lib.frozen_of_heap hres6 0
              have z1 := Lib.frozen_of_heap hres6 1
              have z2 := Lib.frozen_of_heap hres6 2
              go_wp2
              have y0 := set_far (p := ⟨w.heap.size, 2, none⟩) (u := S (unhex q)) (set_far (p := ⟨w.heap.size, 1, none⟩) (u := .int .i64 0) (set_same (u := .int .i64 4) r0) (by simp)) (by simp)
              have y1 := set_far (p := ⟨w.heap.size, 2, none⟩) (u := S (unhex q)) (set_same (u := .int .i64 0) (set_far (p := ⟨w.heap.size, 0, none⟩) (u := .int .i64 4) r1 (by simp))) (by simp)
              have y2 := set_same (u := S (unhex q)) (set_far (p := ⟨w.heap.size, 1, none⟩) (u := .int .i64 0) (set_far (p := ⟨w.heap.size, 0, none⟩) (u := .int .i64 4) r2 (by simp)) (by simp))
              refine bodyPost_ret (v := V 4 0 (unhex q)) (by simp [results, Tryz.results138, go_sem, y0, y1, y2]) rfl ⟨readEnd_some HNO.out NUM.out (by unfold readRest; rw [HX.out, HT.out]; simp [HU.out, HH.out]), (((((hb30.call hb5).call hb6)).set (Nat.le_refl _) _).set (Nat.le_refl _) _).set (Nat.le_refl _) _⟩
            · have HH := Lib.hid hh
              clear hh
              refine (bytes_no q (by omega) _ HH.out).mono ?_
              rintro e w6 ⟨rfl, hb6⟩
              exact ⟨rfl, readEnd_none HNO.out NUM.out (by unfold readRest; rw [HX.out, HT.out]; simp [HU.out, HH.out]), (hb30.call hb5).call hb6⟩

end Go.Proofs.YtepkfkfedmbmnaaGreatDoor

namespace Go.Proofs.YtepkfkfedmbmnaaGreatDoor
open Go.RowKit
set_option maxRecDepth 100000

/-- What a literal is parsed as: kind, number, text, error. -/
def parseV (s : List UInt8) : Int × Int × List UInt8 × Int := match readV s with
  | some (k, n, l) => if chk k n l = 0 then (k, n, l, 0) else (0, 0, [], chk k n l)
  | none => (0, 0, [], 110)

theorem Parse1_any (b : Nat) (x y z : Value) (w : World) (h : w.heap[b]? = some (.cells #[x, y, z] 26 (0, 0))) : Calls Tryz.prog 137 #[.pointer (some ⟨b, 0, none⟩)] w fun e w' => e = .returned (.tuple #[]) ∧ w' = ((w.setCell ⟨b, 0, none⟩ (.int .i64 0)).setCell ⟨b, 1, none⟩ (.int .i64 0)).setCell ⟨b, 2, none⟩ (.string ⟨#[]⟩) := by
  have r0 : w.cell? ⟨b, 0, none⟩ = some x := by rw [Lib.cell_of_heap h]; rfl
  have r1 : w.cell? ⟨b, 1, none⟩ = some y := by rw [Lib.cell_of_heap h]; rfl
  have r2 : w.cell? ⟨b, 2, none⟩ = some z := by rw [Lib.cell_of_heap h]; rfl
  have z0 := Lib.frozen_of_heap h 0
  have z1 := Lib.frozen_of_heap h 1
  have z2 := Lib.frozen_of_heap h 2
  go_enter Tryz.func137, Tryz.ntmps137
  go_wp2
  go_end0
  exact ⟨rfl, rfl⟩
theorem enters_Parse1 (args : Array Value) (w : World) : (callFunc 137 args).run Tryz.prog w = .ok (.enter 137 args) w := by
  simp [go_sem]

theorem read_some {s : List UInt8} {k n : Int} {l : List UInt8} (hs : s.length ≤ 10000) (h : readV s = some (k, n, l)) (w : World) (hG : Glob w) : Calls Tryz.prog 138 #[S s] w fun e w' => e = .returned (V k n l) ∧ Bl w w' :=
  (read_any s hs w hG).mono fun e w' ⟨he, hb⟩ => ⟨by rw [he]; simp [readEnd, h], hb⟩
theorem read_none {s : List UInt8} (hs : s.length ≤ 10000) (h : readV s = none) (w : World) (hG : Glob w) : Calls Tryz.prog 138 #[S s] w fun e w' => e = .panicked [{ v := .iface 31 (.int .i64 110), recovered := false }] ∧ Bl w w' :=
  (read_any s hs w hG).mono fun e w' ⟨he, hb⟩ => ⟨by rw [he]; simp [readEnd, h], hb⟩

theorem heap_set3 (w : World) (b : Nat) (x y z x' y' z' : Value) (t : TypeId) (h : w.heap[b]? = some (.cells #[x, y, z] t (0, 0))) :
    (((w.setCell ⟨b, 0, none⟩ x').setCell ⟨b, 1, none⟩ y').setCell ⟨b, 2, none⟩ z').heap[b]? = some (.cells #[x', y', z'] t (0, 0)) := by
  simp [World.setCell, Array.getElem?_modify, h]
theorem heap_set_other (w : World) (p : Addr) (v : Value) (k : Nat) (h : k ≠ p.block) : (w.setCell p v).heap[k]? = w.heap[k]? := Below.heap_setCell _ _ _ _ h

set_option maxHeartbeats 1000000 in
theorem Parse_none (s : List UInt8) (hs : s.length ≤ 10000) (h : readV s = none) (w : World) (hG : Glob w) :
    Calls Tryz.prog 117 #[S s] w fun e w' => e = .returned (.tuple #[V 0 0 [], .int .i64 110]) ∧ Bl w w' := by
  have H := Lib.hid h
  clear h
  have hmf : ∀ (fn : Fn) (first cap : Array Value) (w : World), (Instr.makeFunc fn first cap).run Tryz.prog w = .ok (.func fn first cap) w := fun _ _ _ _ => rfl
  go_enter_defers Tryz.func117, Tryz.ntmps117
  go_wp2_with fail
  refine (read_none hs H.out _ ((hG.alloc _).alloc _)).mono ?_
  rintro e w1 ⟨rfl, hb⟩
  have hb1 : Bl w w1 := (((Bl.refl w).alloc _).alloc _).call hb
  have hA : w1.heap[w.heap.size]? = some (.cells #[.int .i64 0, .int .i64 0, .string ⟨#[]⟩] 26 (0, 0)) := by
    rw [hb.block _ (by simp; omega), heap_old _ _ (by simp), heap_new]
  have hE : w1.heap[w.heap.size + 1]? = some (.cells #[.int .i64 0] 31 (0, 0)) := by
    rw [hb.block _ (by simp), heap_new' _ _ (by simp)]
  have c4 : w1.cell? ⟨w.heap.size + 1, 0, none⟩ = some (.int .i64 0) := by rw [Lib.cell_of_heap hE]; rfl
  have f4 := Lib.frozen_of_heap hE 0
  go_wp2_with fail
  refine leaves_cons (f := 107) (args := #[.pointer (some ⟨w.heap.size + 1, 0, none⟩), .func (.func 137) #[] #[.pointer (some ⟨w.heap.size, 0, none⟩)]]) (by simp) (by simp [go_sem]) ?_
  have hA' : (w1.setCell ⟨w.heap.size + 1, 0, none⟩ (.int .i64 110)).heap[w.heap.size]? = some (.cells #[.int .i64 0, .int .i64 0, .string ⟨#[]⟩] 26 (0, 0)) := (heap_set_other _ _ _ _ (by simp)).trans hA
  have hL := Parse1_any w.heap.size _ _ _ (w1.setCell ⟨w.heap.size + 1, 0, none⟩ (.int .i64 110)) hA'
  have hP := caught_panic ⟨w.heap.size + 1, 0, none⟩ 0 110 137 #[] #[.pointer (some ⟨w.heap.size, 0, none⟩)] #[.pointer (some ⟨w.heap.size, 0, none⟩)] (by simp) w1 _ c4 f4 enters_Parse1 hL
  refine hP.mono ?_
  rintro e u' w'' ⟨rfl, rfl, rfl⟩
  have hV := heap_set3 _ _ _ _ _ (.int .i64 0) (.int .i64 0) (.string ⟨#[]⟩) _ hA'
  have hE1 : (w1.setCell ⟨w.heap.size + 1, 0, none⟩ (.int .i64 110)).cell? ⟨w.heap.size + 1, 0, none⟩ = some (.int .i64 110) := set_same c4
  have q3 := set_apart (p := ⟨w.heap.size, 2, none⟩) (u := .string ⟨#[]⟩) (set_apart (p := ⟨w.heap.size, 1, none⟩) (u := .int .i64 0) (set_apart (p := ⟨w.heap.size, 0, none⟩) (u := .int .i64 0) hE1 (by simp)) (by simp)) (by simp)
  have hbW := (((hb1.set (p := ⟨w.heap.size + 1, 0, none⟩) (by simp) (.int .i64 110)).set (p := ⟨w.heap.size, 0, none⟩) (by simp) (.int .i64 0)).set (p := ⟨w.heap.size, 1, none⟩) (by simp) (.int .i64 0)).set (p := ⟨w.heap.size, 2, none⟩) (by simp) (.string ⟨#[]⟩)
  clear hP hL
  generalize (((w1.setCell ⟨w.heap.size + 1, 0, none⟩ (.int .i64 110)).setCell ⟨w.heap.size, 0, none⟩ (.int .i64 0)).setCell ⟨w.heap.size, 1, none⟩ (.int .i64 0)).setCell ⟨w.heap.size, 2, none⟩ (.string ⟨#[]⟩) = W at *
  have q0 : W.cell? ⟨w.heap.size, 0, none⟩ = some (.int .i64 0) := by rw [Lib.cell_of_heap hV]; rfl
  have q1 : W.cell? ⟨w.heap.size, 1, none⟩ = some (.int .i64 0) := by rw [Lib.cell_of_heap hV]; rfl
  have q2 : W.cell? ⟨w.heap.size, 2, none⟩ = some (S []) := by rw [Lib.cell_of_heap hV]; rfl
  refine ⟨.tuple #[V 0 0 [], .int .i64 110], ?_, rfl, hbW⟩
  simp [results, Tryz.results117, go_sem, q0, q1, q2, q3]

set_option maxHeartbeats 1000000 in
theorem Parse_some (s : List UInt8) (hs : s.length ≤ 10000) (k n : Int) (l : List UInt8) (h : readV s = some (k, n, l)) (hc : chk k n l = 0) (w : World) (hG : Glob w) :
    Calls Tryz.prog 117 #[S s] w fun e w' => e = .returned (.tuple #[V k n l, .int .i64 0]) ∧ Bl w w' := by
  have H := Lib.hid h
  have HC := Lib.hid hc
  clear h hc
  have hmf : ∀ (fn : Fn) (first cap : Array Value) (w : World), (Instr.makeFunc fn first cap).run Tryz.prog w = .ok (.func fn first cap) w := fun _ _ _ _ => rfl
  go_enter_defers Tryz.func117, Tryz.ntmps117
  go_wp2_with fail
  refine (read_some hs H.out _ ((hG.alloc _).alloc _)).mono ?_
  rintro e w1 ⟨rfl, hb⟩
  have hb1 : Bl w w1 := (((Bl.refl w).alloc _).alloc _).call hb
  have hA : w1.heap[w.heap.size]? = some (.cells #[.int .i64 0, .int .i64 0, .string ⟨#[]⟩] 26 (0, 0)) := by
    rw [hb.block _ (by simp; omega), heap_old _ _ (by simp), heap_new]
  have hE : w1.heap[w.heap.size + 1]? = some (.cells #[.int .i64 0] 31 (0, 0)) := by
    rw [hb.block _ (by simp), heap_new' _ _ (by simp)]
  have hV1 := heap_set3 _ _ _ _ _ (.int .i64 k) (.int .i64 n) (.string ⟨l.toArray⟩) _ hA
  have hE1 := ((heap_set_other ((w1.setCell ⟨w.heap.size, 0, none⟩ (.int .i64 k)).setCell ⟨w.heap.size, 1, none⟩ (.int .i64 n)) ⟨w.heap.size, 2, none⟩ (.string ⟨l.toArray⟩) (w.heap.size + 1) (by simp)).trans ((heap_set_other (w1.setCell ⟨w.heap.size, 0, none⟩ (.int .i64 k)) ⟨w.heap.size, 1, none⟩ (.int .i64 n) (w.heap.size + 1) (by simp)).trans (heap_set_other w1 ⟨w.heap.size, 0, none⟩ (.int .i64 k) (w.heap.size + 1) (by simp)))).trans hE
  have hb2 := ((hb1.set (p := ⟨w.heap.size, 0, none⟩) (by simp) (.int .i64 k)).set (p := ⟨w.heap.size, 1, none⟩) (by simp) (.int .i64 n)).set (p := ⟨w.heap.size, 2, none⟩) (by simp) (.string ⟨l.toArray⟩)
  have r0 : w1.cell? ⟨w.heap.size, 0, none⟩ = some (.int .i64 0) := by rw [Lib.cell_of_heap hA]; rfl
  have r1 : w1.cell? ⟨w.heap.size, 1, none⟩ = some (.int .i64 0) := by rw [Lib.cell_of_heap hA]; rfl
  have r2 : w1.cell? ⟨w.heap.size, 2, none⟩ = some (.string ⟨#[]⟩) := by rw [Lib.cell_of_heap hA]; rfl
  have z0 := Lib.frozen_of_heap hA 0
  have z1 := Lib.frozen_of_heap hA 1
  have z2 := Lib.frozen_of_heap hA 2
  go_wp2_with fail
  clear r0 r1 r2 z0 z1 z2
  generalize ((w1.setCell ⟨w.heap.size, 0, none⟩ (.int .i64 k)).setCell ⟨w.heap.size, 1, none⟩ (.int .i64 n)).setCell ⟨w.heap.size, 2, none⟩ (.string ⟨l.toArray⟩) = W2 at *
  clear hA hE hb
  have hlA : w.heap.size < W2.heap.size := (Array.getElem?_eq_some_iff.1 hV1).1
  have hlE : w.heap.size + 1 < W2.heap.size := (Array.getElem?_eq_some_iff.1 hE1).1
  refine (right_ok _ HC.out).mono ?_
  rintro e w3 ⟨rfl, hb3⟩
  have hV3 := (hb3.block _ hlA).trans hV1
  have hE3 := (hb3.block _ hlE).trans hE1
  have hbw3 := hb2.call hb3
  have r0 : w3.cell? ⟨w.heap.size, 0, none⟩ = some (.int .i64 k) := by rw [Lib.cell_of_heap hV3]; rfl
  have r1 : w3.cell? ⟨w.heap.size, 1, none⟩ = some (.int .i64 n) := by rw [Lib.cell_of_heap hV3]; rfl
  have r2 : w3.cell? ⟨w.heap.size, 2, none⟩ = some (.string ⟨l.toArray⟩) := by rw [Lib.cell_of_heap hV3]; rfl
  have r3 : w3.cell? ⟨w.heap.size + 1, 0, none⟩ = some (.int .i64 0) := by rw [Lib.cell_of_heap hE3]; rfl
  have z0 := Lib.frozen_of_heap hV3 0
  have z1 := Lib.frozen_of_heap hV3 1
  have z2 := Lib.frozen_of_heap hV3 2
  have z3 := Lib.frozen_of_heap hE3 0
  clear hb2 hb1 hV1 hE1
  go_wp2_with fail
  refine leaves_cons (f := 107) (args := #[.pointer (some ⟨w.heap.size + 1, 0, none⟩), .func (.func 137) #[] #[.pointer (some ⟨w.heap.size, 0, none⟩)]]) (by simp) (by simp [go_sem]) ?_
  refine (caught_idle _ _ _).mono ?_
  rintro e u' w'' ⟨rfl, rfl, rfl⟩
  have hV := (heap_set_other _ ⟨w.heap.size + 1, 0, none⟩ (.int .i64 0) w.heap.size (by simp)).trans (heap_set3 _ _ _ _ _ (.int .i64 k) (.int .i64 n) (.string ⟨l.toArray⟩) _ hV3)
  have q3 := set_same (u := .int .i64 0) (set_apart (p := ⟨w.heap.size, 2, none⟩) (u := .string ⟨l.toArray⟩) (set_apart (p := ⟨w.heap.size, 1, none⟩) (u := .int .i64 n) (set_apart (p := ⟨w.heap.size, 0, none⟩) (u := .int .i64 k) r3 (by simp)) (by simp)) (by simp))
  have hbW := (((hbw3.set (p := ⟨w.heap.size, 0, none⟩) (by simp) (.int .i64 k)).set (p := ⟨w.heap.size, 1, none⟩) (by simp) (.int .i64 n)).set (p := ⟨w.heap.size, 2, none⟩) (by simp) (.string ⟨l.toArray⟩)).set (p := ⟨w.heap.size + 1, 0, none⟩) (by simp) (.int .i64 0)
  generalize (((w3.setCell ⟨w.heap.size, 0, none⟩ (.int .i64 k)).setCell ⟨w.heap.size, 1, none⟩ (.int .i64 n)).setCell ⟨w.heap.size, 2, none⟩ (.string ⟨l.toArray⟩)).setCell ⟨w.heap.size + 1, 0, none⟩ (.int .i64 0) = W at *
  have q0 : W.cell? ⟨w.heap.size, 0, none⟩ = some (.int .i64 k) := by rw [Lib.cell_of_heap hV]; rfl
  have q1 : W.cell? ⟨w.heap.size, 1, none⟩ = some (.int .i64 n) := by rw [Lib.cell_of_heap hV]; rfl
  have q2 : W.cell? ⟨w.heap.size, 2, none⟩ = some (S l) := by rw [Lib.cell_of_heap hV]; rfl
  refine ⟨.tuple #[V k n l, .int .i64 0], ?_, rfl, hbW⟩
  simp [results, Tryz.results117, go_sem, q0, q1, q2, q3]

set_option maxHeartbeats 1000000 in
theorem Parse_bad (s : List UInt8) (hs : s.length ≤ 10000) (k n : Int) (l : List UInt8) (h : readV s = some (k, n, l)) (hc : ¬ chk k n l = 0) (w : World) (hG : Glob w) :
    Calls Tryz.prog 117 #[S s] w fun e w' => e = .returned (.tuple #[V 0 0 [], .int .i64 (chk k n l)]) ∧ Bl w w' := by
  have H := Lib.hid h
  have HC := Lib.hid hc
  clear h hc
  have hmf : ∀ (fn : Fn) (first cap : Array Value) (w : World), (Instr.makeFunc fn first cap).run Tryz.prog w = .ok (.func fn first cap) w := fun _ _ _ _ => rfl
  go_enter_defers Tryz.func117, Tryz.ntmps117
  go_wp2_with fail
  refine (read_some hs H.out _ ((hG.alloc _).alloc _)).mono ?_
  rintro e w1 ⟨rfl, hb⟩
  have hb1 : Bl w w1 := (((Bl.refl w).alloc _).alloc _).call hb
  have hA : w1.heap[w.heap.size]? = some (.cells #[.int .i64 0, .int .i64 0, .string ⟨#[]⟩] 26 (0, 0)) := by
    rw [hb.block _ (by simp; omega), heap_old _ _ (by simp), heap_new]
  have hE : w1.heap[w.heap.size + 1]? = some (.cells #[.int .i64 0] 31 (0, 0)) := by
    rw [hb.block _ (by simp), heap_new' _ _ (by simp)]
  have hV1 := heap_set3 _ _ _ _ _ (.int .i64 k) (.int .i64 n) (.string ⟨l.toArray⟩) _ hA
  have hE1 := ((heap_set_other ((w1.setCell ⟨w.heap.size, 0, none⟩ (.int .i64 k)).setCell ⟨w.heap.size, 1, none⟩ (.int .i64 n)) ⟨w.heap.size, 2, none⟩ (.string ⟨l.toArray⟩) (w.heap.size + 1) (by simp)).trans ((heap_set_other (w1.setCell ⟨w.heap.size, 0, none⟩ (.int .i64 k)) ⟨w.heap.size, 1, none⟩ (.int .i64 n) (w.heap.size + 1) (by simp)).trans (heap_set_other w1 ⟨w.heap.size, 0, none⟩ (.int .i64 k) (w.heap.size + 1) (by simp)))).trans hE
  have hb2 := ((hb1.set (p := ⟨w.heap.size, 0, none⟩) (by simp) (.int .i64 k)).set (p := ⟨w.heap.size, 1, none⟩) (by simp) (.int .i64 n)).set (p := ⟨w.heap.size, 2, none⟩) (by simp) (.string ⟨l.toArray⟩)
  have r0 : w1.cell? ⟨w.heap.size, 0, none⟩ = some (.int .i64 0) := by rw [Lib.cell_of_heap hA]; rfl
  have r1 : w1.cell? ⟨w.heap.size, 1, none⟩ = some (.int .i64 0) := by rw [Lib.cell_of_heap hA]; rfl
  have r2 : w1.cell? ⟨w.heap.size, 2, none⟩ = some (.string ⟨#[]⟩) := by rw [Lib.cell_of_heap hA]; rfl
  have z0 := Lib.frozen_of_heap hA 0
  have z1 := Lib.frozen_of_heap hA 1
  have z2 := Lib.frozen_of_heap hA 2
  go_wp2_with fail
  clear r0 r1 r2 z0 z1 z2
  generalize ((w1.setCell ⟨w.heap.size, 0, none⟩ (.int .i64 k)).setCell ⟨w.heap.size, 1, none⟩ (.int .i64 n)).setCell ⟨w.heap.size, 2, none⟩ (.string ⟨l.toArray⟩) = W2 at *
  clear hA hE hb
  have hlA : w.heap.size < W2.heap.size := (Array.getElem?_eq_some_iff.1 hV1).1
  have hlE : w.heap.size + 1 < W2.heap.size := (Array.getElem?_eq_some_iff.1 hE1).1
  refine (right_no _ HC.out).mono ?_
  rintro e w3 ⟨rfl, hb3⟩
  have hV3 := (hb3.block _ hlA).trans hV1
  have hE3 := (hb3.block _ hlE).trans hE1
  have hbw3 := hb2.call hb3
  have c4 : w3.cell? ⟨w.heap.size + 1, 0, none⟩ = some (.int .i64 0) := by rw [Lib.cell_of_heap hE3]; rfl
  have f4 := Lib.frozen_of_heap hE3 0
  clear hb2 hb1 hV1 hE1
  go_wp2_with fail
  refine leaves_cons (f := 107) (args := #[.pointer (some ⟨w.heap.size + 1, 0, none⟩), .func (.func 137) #[] #[.pointer (some ⟨w.heap.size, 0, none⟩)]]) (by simp) (by simp [go_sem]) ?_
  generalize chk k n l = c at *
  have hA' : (w3.setCell ⟨w.heap.size + 1, 0, none⟩ (.int .i64 c)).heap[w.heap.size]? = some (.cells #[.int .i64 k, .int .i64 n, .string ⟨l.toArray⟩] 26 (0, 0)) := (heap_set_other _ _ _ _ (by simp)).trans hV3
  have hL := Parse1_any w.heap.size _ _ _ (w3.setCell ⟨w.heap.size + 1, 0, none⟩ (.int .i64 c)) hA'
  have hP := caught_panic ⟨w.heap.size + 1, 0, none⟩ 0 c 137 #[] #[.pointer (some ⟨w.heap.size, 0, none⟩)] #[.pointer (some ⟨w.heap.size, 0, none⟩)] (by simp) w3 _ c4 f4 enters_Parse1 hL
  refine hP.mono ?_
  rintro e u' w'' ⟨rfl, rfl, rfl⟩
  have hV := heap_set3 _ _ _ _ _ (.int .i64 0) (.int .i64 0) (.string ⟨#[]⟩) _ hA'
  have hE2 : (w3.setCell ⟨w.heap.size + 1, 0, none⟩ (.int .i64 c)).cell? ⟨w.heap.size + 1, 0, none⟩ = some (.int .i64 c) := set_same c4
  have q3 := set_apart (p := ⟨w.heap.size, 2, none⟩) (u := .string ⟨#[]⟩) (set_apart (p := ⟨w.heap.size, 1, none⟩) (u := .int .i64 0) (set_apart (p := ⟨w.heap.size, 0, none⟩) (u := .int .i64 0) hE2 (by simp)) (by simp)) (by simp)
  have hbW := (((hbw3.set (p := ⟨w.heap.size + 1, 0, none⟩) (by simp) (.int .i64 c)).set (p := ⟨w.heap.size, 0, none⟩) (by simp) (.int .i64 0)).set (p := ⟨w.heap.size, 1, none⟩) (by simp) (.int .i64 0)).set (p := ⟨w.heap.size, 2, none⟩) (by simp) (.string ⟨#[]⟩)
  clear hP hL
  generalize (((w3.setCell ⟨w.heap.size + 1, 0, none⟩ (.int .i64 c)).setCell ⟨w.heap.size, 0, none⟩ (.int .i64 0)).setCell ⟨w.heap.size, 1, none⟩ (.int .i64 0)).setCell ⟨w.heap.size, 2, none⟩ (.string ⟨#[]⟩) = W at *
  have q0 : W.cell? ⟨w.heap.size, 0, none⟩ = some (.int .i64 0) := by rw [Lib.cell_of_heap hV]; rfl
  have q1 : W.cell? ⟨w.heap.size, 1, none⟩ = some (.int .i64 0) := by rw [Lib.cell_of_heap hV]; rfl
  have q2 : W.cell? ⟨w.heap.size, 2, none⟩ = some (S []) := by rw [Lib.cell_of_heap hV]; rfl
  refine ⟨.tuple #[V 0 0 [], .int .i64 c], ?_, rfl, hbW⟩
  simp [results, Tryz.results117, go_sem, q0, q1, q2, q3]

theorem Parse_any (s : List UInt8) (hs : s.length ≤ 10000) (w : World) (hG : Glob w) :
    Calls Tryz.prog 117 #[S s] w fun e w' => e = .returned (.tuple #[V (parseV s).1 (parseV s).2.1 (parseV s).2.2.1, .int .i64 (parseV s).2.2.2]) ∧ Bl w w' := by
  cases h : readV s with
  | none =>
    have e : parseV s = (0, 0, [], 110) := by simp [parseV, h]
    rw [e]; exact Parse_none s hs h w hG
  | some x =>
    obtain ⟨k, n, l⟩ := x
    by_cases hc : chk k n l = 0
    · have e : parseV s = (k, n, l, 0) := by simp [parseV, h, hc]
      rw [e]; exact Parse_some s hs k n l h hc w hG
    · have e : parseV s = (0, 0, [], chk k n l) := by simp [parseV, h, hc]
      rw [e]; exact Parse_bad s hs k n l h hc w hG

end Go.Proofs.YtepkfkfedmbmnaaGreatDoor

