/- value.read. -/
import Derived.Test.YtdhaddldmooniaaGreatDoorVL
import Derived.Test.YtdhaddldmooniaaGreatDoorVH
import Derived.Lib.ParseIntBTie
import Derived.Lib.ConvBytes
namespace Go.Proofs.YtdhaddldmooniaaGreatDoor
open Go.RowKit
set_option maxRecDepth 100000

def nameT (t : Nat) : List UInt8 := lit (ofK t) (ofN t) []
def isName (s : List UInt8) : Option (Int × Int) := if nameT 0 = s then some (1, 0) else if nameT 1 = s then some (1, 1) else if nameT 2 = s then some (0, 0) else none
def readNum (s : List UInt8) : Option Int := match Lib.parseIntB 64 s with
  | .ok n => if Lib.itoa n = s then some n else none
  | _ => none
def hexAll (q : List UInt8) : Prop := q.length % 2 = 0 ∧ ∀ c ∈ q, isHex c = true
instance (q : List UInt8) : Decidable (hexAll q) := by unfold hexAll; infer_instance
def readRest (s : List UInt8) : Option (Int × List UInt8) :=
  if Lib.hasPrefix s [120] then (unq (Lib.trimPrefix s [120])).bind fun q => if hexAll q then some (4, unhex q) else none
  else (unq s).map fun q => (3, q)
/-- What a literal is read as: its kind, its number, its text. -/
def readV (s : List UInt8) : Option (Int × Int × List UInt8) :=
  match isName s with
  | some (k, n) => some (k, n, [])
  | none => match readNum s with
    | some n => some (2, n, [])
    | none => (readRest s).map fun x => (x.1, 0, x.2)
def readEnd (s : List UInt8) : Ending := match readV s with
  | some (k, n, l) => .returned (V k n l)
  | none => .panicked [{ v := .iface 25 (.int .i64 110), recovered := false }]

theorem chk_of (t : Nat) : chk (ofK t) (ofN t) [] = 0 := by
  unfold ofK ofN
  split
  · rename_i h
    rcases h with h | h <;> rw [h] <;> decide
  · decide

theorem isName_of {s : List UInt8} (t : Nat) (ht : t < 3) (hne : ∀ j, j < t → nameT j ≠ s) (he : nameT t = s) : isName s = some (ofK t, ofN t) := by
  have h3 : t = 0 ∨ t = 1 ∨ t = 2 := by omega
  rcases h3 with rfl | rfl | rfl
  · simp [isName, he]; decide
  · simp [isName, he, hne 0 (by omega)]; decide
  · simp [isName, he, hne 0 (by omega), hne 1 (by omega)]; decide
theorem isName_none {s : List UInt8} (hne : ∀ j, j < 3 → nameT j ≠ s) : isName s = none := by
  simp [isName, hne 0 (by omega), hne 1 (by omega), hne 2 (by omega)]
theorem readEnd_name {s : List UInt8} {k n : Int} (h : isName s = some (k, n)) : Ending.returned (V k n []) = readEnd s := by
  simp [readEnd, readV, h]

theorem Bl.bytes (w : World) (e : TypeId) (t : ByteArray) : Bl w (Lib.bytesWorld w e t) :=
  ⟨rfl, rfl, rfl, by rw [Lib.bytesWorld_size]; omega, fun k hk => Lib.bytesWorld_at_old w e t k hk⟩
theorem ParseInt_ok (s : List UInt8) (hs : s.length ≤ 10000) (v : Int) (h : Lib.parseIntB 64 s = .ok v) (w : World) :
    Calls Tryz.prog 78 #[S s, .int .i64 10, .int .i64 64] w fun e w' => e = .returned (.tuple #[.int .i64 v, .nilIface]) ∧ Bl w w' := by
  refine (Tryz.strconv_ParseInt_10_at64_ok ⟨s.toArray⟩ (by rw [size_of_list]; omega) v h w).mono ?_
  rintro e w' ⟨rfl, rfl | ⟨t, rfl⟩⟩
  · exact ⟨rfl, Bl.refl _⟩
  · exact ⟨rfl, Bl.bytes _ _ _⟩

def NumErr (w : World) (e : Ending) (w' : World) : Prop := ∃ (x : Int) (N : Nat), e = .returned (.tuple #[.int .i64 x, .iface 153 (.pointer (some ⟨N, 0, none⟩))]) ∧ Bl w w'
theorem ParseInt_no (s : List UInt8) (hs : s.length ≤ 10000) (h : ∀ v, Lib.parseIntB 64 s ≠ .ok v) (w : World) (hG : Glob w) :
    Calls Tryz.prog 78 #[S s, .int .i64 10, .int .i64 64] w (NumErr w) := by
  cases hp : Lib.parseIntB 64 s with
  | ok v => exact absurd hp (h v)
  | range =>
    obtain ⟨tp, p, hv⟩ := hG.rng
    refine (Any.strconv_ParseInt_10_at64_range_var Tryz.laysC174 ⟨s.toArray⟩ (by rw [size_of_list]; omega) hp tp p w hv).mono ?_
    rintro e w' ⟨N, he, _, _, hb⟩
    exact ⟨_, N, he, hb⟩
  | _ =>
    obtain ⟨tp, p, hv⟩ := hG.syn
    refine (Any.strconv_ParseInt_10_at64_syntax_var Tryz.laysC174 ⟨s.toArray⟩ (by rw [size_of_list]; omega) hp tp p w hv).mono ?_
    rintro e w' ⟨N, he, _, _, hb⟩
    exact ⟨_, N, he, hb⟩

theorem quotes_some {s q : List UInt8} (hs : s.length ≤ 10000) (h : unq s = some q) (wN W : World) (hG : Glob wN) (hW : Bl wN W) (hc : W.cell? ⟨wN.heap.size, 0, none⟩ = some (S s)) (hz : W.frozen? ⟨wN.heap.size, 0, none⟩ = false) :
    Calls Tryz.prog 82 #[.pointer (some ⟨wN.heap.size, 0, none⟩)] W fun e w' => e = .returned (S q) ∧ Bl wN w' := by
  unfold unq at h
  cases hq : cutQ s with
  | none => rw [hq] at h; cases h
  | some r =>
    rw [hq] at h
    simp only [Option.bind_some] at h
    refine (quotes_cut ⟨wN.heap.size, 0, none⟩ s r (by omega) wN W hG hW (Nat.le_refl _) hc hz hq).mono ?_
    rintro e w' ⟨rfl, hb⟩
    refine ⟨?_, hW.trans hb⟩
    unfold quoteEnd
    split at h
    · cases h
    · rename_i hn; rw [if_neg hn]; injection h with h; rw [h]
theorem quotes_none {s : List UInt8} (hs : s.length ≤ 10000) (h : unq s = none) (wN W : World) (hG : Glob wN) (hW : Bl wN W) (hc : W.cell? ⟨wN.heap.size, 0, none⟩ = some (S s)) (hz : W.frozen? ⟨wN.heap.size, 0, none⟩ = false) :
    Calls Tryz.prog 82 #[.pointer (some ⟨wN.heap.size, 0, none⟩)] W fun e w' => e = .panicked [{ v := .iface 25 (.int .i64 110), recovered := false }] ∧ Bl wN w' := by
  unfold unq at h
  cases hq : cutQ s with
  | none =>
    refine (quotes_cut_no ⟨wN.heap.size, 0, none⟩ s (by omega) W hc hq).mono ?_
    rintro e w' ⟨rfl, rfl⟩
    exact ⟨rfl, hW⟩
  | some r =>
    rw [hq] at h
    simp only [Option.bind_some] at h
    refine (quotes_cut ⟨wN.heap.size, 0, none⟩ s r (by omega) wN W hG hW (Nat.le_refl _) hc hz hq).mono ?_
    rintro e w' ⟨rfl, hb⟩
    refine ⟨?_, hW.trans hb⟩
    unfold quoteEnd
    split at h
    · rename_i hn; rw [if_pos hn]
    · cases h
theorem unq_length {s q : List UInt8} (h : unq s = some q) : q.length ≤ s.length := by
  unfold unq at h
  cases hq : cutQ s with
  | none => rw [hq] at h; cases h
  | some r =>
    rw [hq] at h
    simp only [Option.bind_some] at h
    split at h
    · cases h
    · injection h with h
      have := cutQ_length hq
      have := pairs_length 39 r.length r (Nat.le_refl _)
      rw [← h]; omega

theorem int64_of_parse {s : List UInt8} {v : Int} (h : Lib.parseIntB 64 s = .ok v) : -9223372036854775808 ≤ v ∧ v ≤ 9223372036854775807 := by
  have := Lib.parseIntB_bounds h
  simp at this
  omega

theorem readEnd_num {s : List UInt8} {v : Int} (h : isName s = none) (hp : Lib.parseIntB 64 s = .ok v) (hi : Lib.itoa v = s) : Ending.returned (V 2 v []) = readEnd s := by
  simp [readEnd, readV, h, readNum, hp, hi]
theorem readNum_off {s : List UInt8} {v : Int} (hp : Lib.parseIntB 64 s = .ok v) (hi : ¬ Lib.itoa v = s) : readNum s = none := by
  simp [readNum, hp, hi]
theorem readNum_no {s : List UInt8} (hp : ∀ v, Lib.parseIntB 64 s ≠ .ok v) : readNum s = none := by
  unfold readNum
  split
  · rename_i v hv; exact absurd hv (hp v)
  · rfl
theorem readEnd_some {s : List UInt8} {k : Int} {l : List UInt8} (h : isName s = none) (hn : readNum s = none) (hr : readRest s = some (k, l)) : Ending.returned (V k 0 l) = readEnd s := by
  simp [readEnd, readV, h, hn, hr]
theorem readEnd_none {s : List UInt8} (h : isName s = none) (hn : readNum s = none) (hr : readRest s = none) : Ending.panicked [{ v := .iface 25 (.int .i64 110), recovered := false }] = readEnd s := by
  simp [readEnd, readV, h, hn, hr]

set_option maxHeartbeats 2000000 in
theorem read_any (s : List UInt8) (hs : s.length ≤ 10000) (w : World) (hG : Glob w) : Calls Tryz.prog 67 #[S s] w fun e w' => e = readEnd s ∧ Bl w w' := by
  go_enter Tryz.func67, Tryz.ntmps67
  go_wp2_with fail
  go_loopw [3] (fun i wr => ∃ t : Nat, t ≤ 3 ∧ i = .int .i64 (t : Int) ∧ Hid (∀ j, j < t → nameT j ≠ s) ∧ Bl w wr ∧ wr.heap[w.heap.size]? = some (.cells #[.int .i64 0, .int .i64 0, S []] 32 (0, 0))) (fun i _ => 3 - (intOf i).toNat)
  case atStart => exact ⟨0, by omega, rfl, fun j hj => by omega, (Bl.refl w).alloc _, heap_new w _⟩
  case round =>
    obtain ⟨t, ht, rfl, HN, hB, hres⟩ := hrel
    by_cases hlt : t < 3
    · have hGr := hG.bl hB
      go_wp2_with fail
      refine (Of_any (t : Int) (by omega) (by omega) _).mono ?_
      rintro e w1 ⟨rfl, hb1⟩
      have hc := chk_of t
      generalize hk : ofK (t : Int) = k at *
      generalize hn : ofN (t : Int) = n at *
      have HK := Lib.hid hk
      have HNn := Lib.hid hn
      have HC := Lib.hid hc
      clear hk hn hc
      obtain ⟨_, k0, k4⟩ := chk_cases HC.out
      have hn0 : -9223372036854775808 ≤ n := by rw [← HNn.out]; unfold ofN; split <;> omega
      have hn1 : n ≤ 9223372036854775807 := by rw [← HNn.out]; unfold ofN; split <;> omega
      have N0 := Lib.hid hn0
      have N1 := Lib.hid hn1
      clear hn0 hn1
      go_wp2_with fail
      have bW : Bl w1 (w1.alloc (.cells #[.int .i64 k, .int .i64 n, .string ⟨#[]⟩] 32)) := (Bl.refl w1).alloc _
      have c0 : (w1.alloc (.cells #[.int .i64 k, .int .i64 n, .string ⟨#[]⟩] 32)).cell? ⟨w1.heap.size, 0, none⟩ = some (.int .i64 k) := by simp [go_sem]
      have c1 : (w1.alloc (.cells #[.int .i64 k, .int .i64 n, .string ⟨#[]⟩] 32)).cell? ⟨w1.heap.size, 1, none⟩ = some (.int .i64 n) := by simp [go_sem]
      have c2 : (w1.alloc (.cells #[.int .i64 k, .int .i64 n, .string ⟨#[]⟩] 32)).cell? ⟨w1.heap.size, 2, none⟩ = some (.string ⟨#[]⟩) := by simp [go_sem]
      generalize w1.alloc (.cells #[.int .i64 k, .int .i64 n, .string ⟨#[]⟩] 32) = W at *
      have hlook : (Instr.lookup 112 (.map (some W.heap.size)) (.int .i64 k) false).run Tryz.prog ((W.alloc (.map lAll 5)).drew) = .ok (.func (.func (laidF k)) #[] #[]) ((W.alloc (.map lAll 5)).drew) :=
        look_laid (w := (W.alloc (.map lAll 5)).drew) (heap_new W (.map lAll 5)) k0 k4
      have hen := enters_laidF k
      have hbW : Bl W ((W.alloc (.map lAll 5)).drew) := ((Bl.refl W).alloc _).drew
      have hbWr : Bl wr W := hb1.call bW
      have hG2 := (hGr.bl hbWr).bl hbW
      clear k0 k4
      go_region_held3 (fun w' => w'.cell? ⟨w1.heap.size, 0, none⟩ = some (.int .i64 k) ∧ w'.cell? ⟨w1.heap.size, 1, none⟩ = some (.int .i64 n) ∧ w'.cell? ⟨w1.heap.size, 2, none⟩ = some (.string ⟨#[]⟩)) (first | exact ⟨c0, c1, c2⟩ | exact ⟨d0, d1, d2⟩ | go_keep)
        (first
          | (go_at_call 77; (with_reducible refine (laid_any _).mono ?_); rintro e w2 ⟨rfl, rfl⟩)
          | ((with_reducible refine (tells_any k n [] HC.out N0.out N1.out _ hG2).mono ?_); rintro e w3 ⟨rfl, hb3⟩; have d0 := Bl.cell hb3 (Bl.cell hbW c0); have d1 := Bl.cell hb3 (Bl.cell hbW c1); have d2 := Bl.cell hb3 (Bl.cell hbW c2)))
      have hbw3 : Bl wr w3 := (hbWr.call hbW).call hb3
      have hlw : w.heap.size < wr.heap.size := (Array.getElem?_eq_some_iff.1 hres).1
      have hres3 : w3.heap[w.heap.size]? = some (.cells #[.int .i64 0, .int .i64 0, S []] 32 (0, 0)) := (hbw3.block _ hlw).trans hres
      have r0 : w3.cell? ⟨w.heap.size, 0, none⟩ = some (.int .i64 0) := by rw [Lib.cell_of_heap hres3]; rfl
      have r1 : w3.cell? ⟨w.heap.size, 1, none⟩ = some (.int .i64 0) := by rw [Lib.cell_of_heap hres3]; rfl
      have r2 : w3.cell? ⟨w.heap.size, 2, none⟩ = some (S []) := by rw [Lib.cell_of_heap hres3]; rfl
      have z0 := Lib.frozen_of_heap hres3 0
      have z1 := Lib.frozen_of_heap hres3 1
      have z2 := Lib.frozen_of_heap hres3 2
      go_wp2
      · have hq : lit k n [] = s := by simpa using ‹(lit k n [] == s) = true›
        have y0 := set_far (p := ⟨w.heap.size, 2, none⟩) (u := .string ⟨#[]⟩) (set_far (p := ⟨w.heap.size, 1, none⟩) (u := .int .i64 n) (set_same (u := .int .i64 k) r0) (by simp)) (by simp)
        have y1 := set_far (p := ⟨w.heap.size, 2, none⟩) (u := .string ⟨#[]⟩) (set_same (u := .int .i64 n) (set_far (p := ⟨w.heap.size, 0, none⟩) (u := .int .i64 k) r1 (by simp))) (by simp)
        have y2 := set_same (u := .string ⟨#[]⟩) (set_far (p := ⟨w.heap.size, 1, none⟩) (u := .int .i64 n) (set_far (p := ⟨w.heap.size, 0, none⟩) (u := .int .i64 k) r2 (by simp)) (by simp))
        refine bodyPost_ret (v := V k n []) (by simp [results, Tryz.results67, go_sem, y0, y1, y2]) rfl ⟨readEnd_name ?_, (((hB.call hbw3).set (Nat.le_refl _) _).set (Nat.le_refl _) _).set (Nat.le_refl _) _⟩
        have := isName_of t hlt HN.out (by unfold nameT; rw [HK.out, HNn.out]; exact hq)
        rw [this, HK.out, HNn.out]
      · have hq : ¬ lit k n [] = s := by simpa using ‹(lit k n [] == s) = false›
        go_roundw
        case rel =>
          refine ⟨t + 1, by omega, by go_num, ?_, hB.call hbw3, hres3⟩
          intro j hj
          by_cases hjt : j < t
          · exact HN.out j hjt
          · obtain rfl : j = t := by omega
            unfold nameT; rw [HK.out, HNn.out]; exact hq
        case measure => simp [intOf]; omega
    · obtain rfl : t = 3 := by omega
      have hnone := isName_none HN.out
      have HNO := Lib.hid hnone
      clear hnone HN
      have hGr := hG.bl hB
      have hlw : w.heap.size < wr.heap.size := (Array.getElem?_eq_some_iff.1 hres).1
      go_wp2_with fail
      by_cases hp : ∃ v, Lib.parseIntB 64 s = .ok v
      · obtain ⟨v, hv⟩ := hp
        obtain ⟨v0, v1⟩ := int64_of_parse hv
        refine (ParseInt_ok s hs v hv _).mono ?_
        rintro e w2 ⟨rfl, hb2⟩
        have PV := Lib.hid hv
        clear hv
        go_wp2_with fail
        refine (Tryz.strconv_FormatInt_10 v v0 v1 _ (hGr.bl hb2).pow).mono ?_
        rintro e w3 ⟨rfl, j, os, hw3⟩
        have hb3 : Bl wr w3 := hb2.call (by rw [hw3]; exact Bl.regrown _ _ _)
        clear hw3 hb2
        have hres3 : w3.heap[w.heap.size]? = some (.cells #[.int .i64 0, .int .i64 0, S []] 32 (0, 0)) := (hb3.block _ hlw).trans hres
        have r0 : w3.cell? ⟨w.heap.size, 0, none⟩ = some (.int .i64 0) := by rw [Lib.cell_of_heap hres3]; rfl
        have r1 : w3.cell? ⟨w.heap.size, 1, none⟩ = some (.int .i64 0) := by rw [Lib.cell_of_heap hres3]; rfl
        have r2 : w3.cell? ⟨w.heap.size, 2, none⟩ = some (S []) := by rw [Lib.cell_of_heap hres3]; rfl
        have z0 := Lib.frozen_of_heap hres3 0
        have z1 := Lib.frozen_of_heap hres3 1
        have z2 := Lib.frozen_of_heap hres3 2
        go_wp2_with fail
        · have hq : Lib.itoa v = s := by simpa using ‹(Lib.itoa v == s) = true›
          have y0 := set_far (p := ⟨w.heap.size, 2, none⟩) (u := .string ⟨#[]⟩) (set_far (p := ⟨w.heap.size, 1, none⟩) (u := .int .i64 v) (set_same (u := .int .i64 2) r0) (by simp)) (by simp)
          have y1 := set_far (p := ⟨w.heap.size, 2, none⟩) (u := .string ⟨#[]⟩) (set_same (u := .int .i64 v) (set_far (p := ⟨w.heap.size, 0, none⟩) (u := .int .i64 2) r1 (by simp))) (by simp)
          have y2 := set_same (u := .string ⟨#[]⟩) (set_far (p := ⟨w.heap.size, 1, none⟩) (u := .int .i64 v) (set_far (p := ⟨w.heap.size, 0, none⟩) (u := .int .i64 2) r2 (by simp)) (by simp))
          refine bodyPost_ret (v := V 2 v []) (by simp [results, Tryz.results67, go_sem, y0, y1, y2]) rfl ⟨readEnd_num HNO.out PV.out hq, ((((hB.call hb3)).set (Nat.le_refl _) _).set (Nat.le_refl _) _).set (Nat.le_refl _) _⟩
        · have hq : ¬ Lib.itoa v = s := by simpa using ‹(Lib.itoa v == s) = false›
          have NUM := Lib.hid (readNum_off PV.out hq)
          clear hq r0 r1 r2 z0 z1 z2
          refine (CutPrefix_L s [120] _).mono ?_
          rintro e w4 ⟨rfl, rfl⟩
          have hG3 := hGr.bl hb3
          have hb30 := hB.call hb3
          cases hx : Lib.hasPrefix s [120]
          · have HX := Lib.hid hx
            have htp : Lib.trimPrefix s [120] = s := by simp [Lib.trimPrefix, hx]
            rw [htp]
            clear hx htp
            go_wp2_with fail
            cases hu : unq s with
            | none =>
              have HU := Lib.hid hu
              clear hu
              refine (quotes_none hs HU.out w3 _ hG3 ((Bl.refl w3).alloc _) (by simp [go_sem]) (by simp [go_sem])).mono ?_
              rintro e w5 ⟨rfl, hb5⟩
              exact ⟨rfl, readEnd_none HNO.out NUM.out (by unfold readRest; rw [HX.out]; simp [HU.out]), hb30.call hb5⟩
            | some q =>
              have HU := Lib.hid hu
              clear hu
              refine (quotes_some hs HU.out w3 _ hG3 ((Bl.refl w3).alloc _) (by simp [go_sem]) (by simp [go_sem])).mono ?_
              rintro e w5 ⟨rfl, hb5⟩
              have hb35 := hb3.call hb5
              have hres5 : w5.heap[w.heap.size]? = some (.cells #[.int .i64 0, .int .i64 0, S []] 32 (0, 0)) := (hb35.block _ hlw).trans hres
              have r0 : w5.cell? ⟨w.heap.size, 0, none⟩ = some (.int .i64 0) := by rw [Lib.cell_of_heap hres5]; rfl
              have r1 : w5.cell? ⟨w.heap.size, 1, none⟩ = some (.int .i64 0) := by rw [Lib.cell_of_heap hres5]; rfl
              have r2 : w5.cell? ⟨w.heap.size, 2, none⟩ = some (S []) := by rw [Lib.cell_of_heap hres5]; rfl
              have z0 := Lib.frozen_of_heap hres5 0
              have z1 := Lib.frozen_of_heap hres5 1
              have z2 := Lib.frozen_of_heap hres5 2
              go_wp2
              have y0 := set_far (p := ⟨w.heap.size, 2, none⟩) (u := S q) (set_far (p := ⟨w.heap.size, 1, none⟩) (u := .int .i64 0) (set_same (u := .int .i64 3) r0) (by simp)) (by simp)
              have y1 := set_far (p := ⟨w.heap.size, 2, none⟩) (u := S q) (set_same (u := .int .i64 0) (set_far (p := ⟨w.heap.size, 0, none⟩) (u := .int .i64 3) r1 (by simp))) (by simp)
              have y2 := set_same (u := S q) (set_far (p := ⟨w.heap.size, 1, none⟩) (u := .int .i64 0) (set_far (p := ⟨w.heap.size, 0, none⟩) (u := .int .i64 3) r2 (by simp)) (by simp))
              refine bodyPost_ret (v := V 3 0 q) (by simp [results, Tryz.results67, go_sem, y0, y1, y2]) rfl ⟨readEnd_some HNO.out NUM.out (by unfold readRest; rw [HX.out]; simp [HU.out]), ((((hb30.call hb5)).set (Nat.le_refl _) _).set (Nat.le_refl _) _).set (Nat.le_refl _) _⟩
          · have HX := Lib.hid hx
            have htl := trimPrefix_length s [120]
            generalize htp : Lib.trimPrefix s [120] = x at *
            have HT := Lib.hid htp
            clear hx htp
            go_wp2_with fail
            cases hu : unq x with
            | none =>
              have HU := Lib.hid hu
              clear hu
              refine (quotes_none (by omega) HU.out w3 _ hG3 ((Bl.refl w3).alloc _) (by simp [go_sem]) (by simp [go_sem])).mono ?_
              rintro e w5 ⟨rfl, hb5⟩
              exact ⟨rfl, readEnd_none HNO.out NUM.out (by unfold readRest; rw [HX.out, HT.out]; simp [HU.out]), hb30.call hb5⟩
            | some q =>
              have HU := Lib.hid hu
              have hql := unq_length hu
              clear hu
              refine (quotes_some (by omega) HU.out w3 _ hG3 ((Bl.refl w3).alloc _) (by simp [go_sem]) (by simp [go_sem])).mono ?_
              rintro e w5 ⟨rfl, hb5⟩
              go_wp2_with fail
              by_cases hh : hexAll q
              · have HH := Lib.hid hh
                clear hh
                refine (bytes_ok q (by omega) _ HH.out.1 HH.out.2).mono ?_
                rintro e w6 ⟨rfl, hb6⟩
                have hb36 := (hb3.call hb5).call hb6
                have hres6 : w6.heap[w.heap.size]? = some (.cells #[.int .i64 0, .int .i64 0, S []] 32 (0, 0)) := (hb36.block _ hlw).trans hres
                have r0 : w6.cell? ⟨w.heap.size, 0, none⟩ = some (.int .i64 0) := by rw [Lib.cell_of_heap hres6]; rfl
                have r1 : w6.cell? ⟨w.heap.size, 1, none⟩ = some (.int .i64 0) := by rw [Lib.cell_of_heap hres6]; rfl
                have r2 : w6.cell? ⟨w.heap.size, 2, none⟩ = some (S []) := by rw [Lib.cell_of_heap hres6]; rfl
                have z0 := Lib.frozen_of_heap hres6 0
                have z1 := Lib.frozen_of_heap hres6 1
                have z2 := Lib.frozen_of_heap hres6 2
                go_wp2
                have y0 := set_far (p := ⟨w.heap.size, 2, none⟩) (u := S (unhex q)) (set_far (p := ⟨w.heap.size, 1, none⟩) (u := .int .i64 0) (set_same (u := .int .i64 4) r0) (by simp)) (by simp)
                have y1 := set_far (p := ⟨w.heap.size, 2, none⟩) (u := S (unhex q)) (set_same (u := .int .i64 0) (set_far (p := ⟨w.heap.size, 0, none⟩) (u := .int .i64 4) r1 (by simp))) (by simp)
                have y2 := set_same (u := S (unhex q)) (set_far (p := ⟨w.heap.size, 1, none⟩) (u := .int .i64 0) (set_far (p := ⟨w.heap.size, 0, none⟩) (u := .int .i64 4) r2 (by simp)) (by simp))
                refine bodyPost_ret (v := V 4 0 (unhex q)) (by simp [results, Tryz.results67, go_sem, y0, y1, y2]) rfl ⟨readEnd_some HNO.out NUM.out (by unfold readRest; rw [HX.out, HT.out]; simp [HU.out, HH.out]), (((((hb30.call hb5).call hb6)).set (Nat.le_refl _) _).set (Nat.le_refl _) _).set (Nat.le_refl _) _⟩
              · have HH := Lib.hid hh
                clear hh
                refine (bytes_no q (by omega) _ HH.out).mono ?_
                rintro e w6 ⟨rfl, hb6⟩
                exact ⟨rfl, readEnd_none HNO.out NUM.out (by unfold readRest; rw [HX.out, HT.out]; simp [HU.out, HH.out]), (hb30.call hb5).call hb6⟩
      · have hp' : ∀ v, Lib.parseIntB 64 s ≠ .ok v := fun v h => hp ⟨v, h⟩
        have NUM := Lib.hid (readNum_no hp')
        refine (ParseInt_no s hs hp' _ hGr).mono ?_
        rintro e w3 ⟨x0, N, rfl, hb3⟩
        clear hp hp'
        go_wp2_with fail
        refine (CutPrefix_L s [120] _).mono ?_
        rintro e w4 ⟨rfl, rfl⟩
        have hG3 := hGr.bl hb3
        have hb30 := hB.call hb3
        cases hx : Lib.hasPrefix s [120]
        · have HX := Lib.hid hx
          have htp : Lib.trimPrefix s [120] = s := by simp [Lib.trimPrefix, hx]
          rw [htp]
          clear hx htp
          go_wp2_with fail
          cases hu : unq s with
          | none =>
            have HU := Lib.hid hu
            clear hu
            refine (quotes_none hs HU.out w3 _ hG3 ((Bl.refl w3).alloc _) (by simp [go_sem]) (by simp [go_sem])).mono ?_
            rintro e w5 ⟨rfl, hb5⟩
            exact ⟨rfl, readEnd_none HNO.out NUM.out (by unfold readRest; rw [HX.out]; simp [HU.out]), hb30.call hb5⟩
          | some q =>
            have HU := Lib.hid hu
            clear hu
            refine (quotes_some hs HU.out w3 _ hG3 ((Bl.refl w3).alloc _) (by simp [go_sem]) (by simp [go_sem])).mono ?_
            rintro e w5 ⟨rfl, hb5⟩
            have hb35 := hb3.call hb5
            have hres5 : w5.heap[w.heap.size]? = some (.cells #[.int .i64 0, .int .i64 0, S []] 32 (0, 0)) := (hb35.block _ hlw).trans hres
            have r0 : w5.cell? ⟨w.heap.size, 0, none⟩ = some (.int .i64 0) := by rw [Lib.cell_of_heap hres5]; rfl
            have r1 : w5.cell? ⟨w.heap.size, 1, none⟩ = some (.int .i64 0) := by rw [Lib.cell_of_heap hres5]; rfl
            have r2 : w5.cell? ⟨w.heap.size, 2, none⟩ = some (S []) := by rw [Lib.cell_of_heap hres5]; rfl
            have z0 := Lib.frozen_of_heap hres5 0
            have z1 := Lib.frozen_of_heap hres5 1
            have z2 := Lib.frozen_of_heap hres5 2
            go_wp2
            have y0 := set_far (p := ⟨w.heap.size, 2, none⟩) (u := S q) (set_far (p := ⟨w.heap.size, 1, none⟩) (u := .int .i64 0) (set_same (u := .int .i64 3) r0) (by simp)) (by simp)
            have y1 := set_far (p := ⟨w.heap.size, 2, none⟩) (u := S q) (set_same (u := .int .i64 0) (set_far (p := ⟨w.heap.size, 0, none⟩) (u := .int .i64 3) r1 (by simp))) (by simp)
            have y2 := set_same (u := S q) (set_far (p := ⟨w.heap.size, 1, none⟩) (u := .int .i64 0) (set_far (p := ⟨w.heap.size, 0, none⟩) (u := .int .i64 3) r2 (by simp)) (by simp))
            refine bodyPost_ret (v := V 3 0 q) (by simp [results, Tryz.results67, go_sem, y0, y1, y2]) rfl ⟨readEnd_some HNO.out NUM.out (by unfold readRest; rw [HX.out]; simp [HU.out]), ((((hb30.call hb5)).set (Nat.le_refl _) _).set (Nat.le_refl _) _).set (Nat.le_refl _) _⟩
        · have HX := Lib.hid hx
          have htl := trimPrefix_length s [120]
          generalize htp : Lib.trimPrefix s [120] = x at *
          have HT := Lib.hid htp
          clear hx htp
          go_wp2_with fail
          cases hu : unq x with
          | none =>
            have HU := Lib.hid hu
            clear hu
            refine (quotes_none (by omega) HU.out w3 _ hG3 ((Bl.refl w3).alloc _) (by simp [go_sem]) (by simp [go_sem])).mono ?_
            rintro e w5 ⟨rfl, hb5⟩
            exact ⟨rfl, readEnd_none HNO.out NUM.out (by unfold readRest; rw [HX.out, HT.out]; simp [HU.out]), hb30.call hb5⟩
          | some q =>
            have HU := Lib.hid hu
            have hql := unq_length hu
            clear hu
            refine (quotes_some (by omega) HU.out w3 _ hG3 ((Bl.refl w3).alloc _) (by simp [go_sem]) (by simp [go_sem])).mono ?_
            rintro e w5 ⟨rfl, hb5⟩
            go_wp2_with fail
            by_cases hh : hexAll q
            · have HH := Lib.hid hh
              clear hh
              refine (bytes_ok q (by omega) _ HH.out.1 HH.out.2).mono ?_
              rintro e w6 ⟨rfl, hb6⟩
              have hb36 := (hb3.call hb5).call hb6
              have hres6 : w6.heap[w.heap.size]? = some (.cells #[.int .i64 0, .int .i64 0, S []] 32 (0, 0)) := (hb36.block _ hlw).trans hres
              have r0 : w6.cell? ⟨w.heap.size, 0, none⟩ = some (.int .i64 0) := by rw [Lib.cell_of_heap hres6]; rfl
              have r1 : w6.cell? ⟨w.heap.size, 1, none⟩ = some (.int .i64 0) := by rw [Lib.cell_of_heap hres6]; rfl
              have r2 : w6.cell? ⟨w.heap.size, 2, none⟩ = some (S []) := by rw [Lib.cell_of_heap hres6]; rfl
              have z0 := Lib.frozen_of_heap hres6 0
              have z1 := Lib.frozen_of_heap hres6 1
              have z2 := Lib.frozen_of_heap hres6 2
              go_wp2
              have y0 := set_far (p := ⟨w.heap.size, 2, none⟩) (u := S (unhex q)) (set_far (p := ⟨w.heap.size, 1, none⟩) (u := .int .i64 0) (set_same (u := .int .i64 4) r0) (by simp)) (by simp)
              have y1 := set_far (p := ⟨w.heap.size, 2, none⟩) (u := S (unhex q)) (set_same (u := .int .i64 0) (set_far (p := ⟨w.heap.size, 0, none⟩) (u := .int .i64 4) r1 (by simp))) (by simp)
              have y2 := set_same (u := S (unhex q)) (set_far (p := ⟨w.heap.size, 1, none⟩) (u := .int .i64 0) (set_far (p := ⟨w.heap.size, 0, none⟩) (u := .int .i64 4) r2 (by simp)) (by simp))
              refine bodyPost_ret (v := V 4 0 (unhex q)) (by simp [results, Tryz.results67, go_sem, y0, y1, y2]) rfl ⟨readEnd_some HNO.out NUM.out (by unfold readRest; rw [HX.out, HT.out]; simp [HU.out, HH.out]), (((((hb30.call hb5).call hb6)).set (Nat.le_refl _) _).set (Nat.le_refl _) _).set (Nat.le_refl _) _⟩
            · have HH := Lib.hid hh
              clear hh
              refine (bytes_no q (by omega) _ HH.out).mono ?_
              rintro e w6 ⟨rfl, hb6⟩
              exact ⟨rfl, readEnd_none HNO.out NUM.out (by unfold readRest; rw [HX.out, HT.out]; simp [HU.out, HH.out]), (hb30.call hb5).call hb6⟩

end Go.Proofs.YtdhaddldmooniaaGreatDoor
