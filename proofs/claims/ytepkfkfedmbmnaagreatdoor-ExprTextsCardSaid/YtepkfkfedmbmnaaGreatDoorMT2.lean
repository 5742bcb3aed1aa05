/- Texts of expressions: how long; joined as the library joins. The expressions of the chapter's rows. The program's texts of calls, of what is in parentheses, of values and columns. The program's text of an operator. The program's table of texts. -/
import Derived.Test.YtepkfkfedmbmnaaGreatDoorME
import Derived.Test.YtepkfkfedmbmnaaGreatDoorMX
import Derived.Test.YtepkfkfedmbmnaaGreatDoorMG
import Derived.Test.YtepkfkfedmbmnaaGreatDoorShelf
import Derived.Test.YtepkfkfedmbmnaaGreatDoorMH
import Derived.Lib.Join
namespace Go.Proofs.YtepkfkfedmbmnaaGreatDoor
open Go.RowKit
set_option maxRecDepth 100000

theorem joinB_cons (s x : List UInt8) (r : List (List UInt8)) : joinB s (x :: r) = x ++ Lib.joinTail s r := by
  induction r generalizing x with
  | nil => simp [joinB, Lib.joinTail]
  | cons y r ih => simp only [joinB, ih, Lib.joinTail, List.map_cons, List.flatten_cons, List.append_assoc]
theorem joinB_lib (s : List UInt8) (l : List (List UInt8)) : joinB s l = Lib.join l s := by
  cases l with
  | nil => rfl
  | cons x r => rw [joinB_cons, Lib.join_cons]
theorem join_mem_len {s x : List UInt8} : ∀ {l : List (List UInt8)}, x ∈ l → x.length ≤ (joinB s l).length
  | [], h => by cases h
  | [y], h => by simp at h; subst h; simp [joinB]
  | y :: z :: r, h => by
    simp only [joinB, List.length_append]
    rcases List.mem_cons.1 h with rfl | h
    · omega
    · have := join_mem_len (s := s) h
      omega
theorem checkB_right {x : Ex} (h : checkB x = true) : rightB x = true := by
  cases x with
  | mk k v t n o args =>
    simp only [checkB, Bool.and_eq_true] at h
    exact h.1
theorem checkB_args {x y : Ex} (h : checkB x = true) (hy : y ∈ x.args) : checkB y = true := by
  cases x with
  | mk k v t n o args =>
    simp only [checkB, Bool.and_eq_true, checksB_all, List.all_eq_true] at h
    exact h.2 y hy
theorem one_of {α : Type} {l : List α} (h : l.length = 1) : ∃ a, l = [a] := by
  match l, h with
  | [a], _ => exact ⟨a, rfl⟩
theorem two_of {α : Type} {l : List α} (h : l.length = 2) : ∃ a b, l = [a, b] := by
  match l, h with
  | [a, b], _ => exact ⟨a, b, rfl⟩
/-- What an operator that may be looks like. -/
theorem right_op {v : Int × Int × List UInt8} {t n : List UInt8} {o : Int} {args : List Ex} (h : rightF 3 v t n o args = true) : 1 ≤ o ∧ o ≤ 20 ∧ args.length = opMany o ∧ v = (0, 0, []) ∧ t = [] ∧ n = [] := by
  unfold rightF at h
  simp only [show ¬ (3 : Int) = 1 by decide, show ¬ (3 : Int) = 2 by decide, if_true, if_false, Bool.and_eq_true, beq_iff_eq, decide_eq_true_eq] at h
  exact ⟨h.1.2.1, h.1.2.2, h.2, h.1.1.1.1, h.1.1.1.2, h.1.1.2⟩
theorem many_two {o : Int} (h1 : 1 ≤ o) (h2 : o ≤ 14) : opMany o = 2 := by unfold opMany; rw [if_pos ⟨h1, h2⟩]
theorem many_one {o : Int} (h1 : 15 ≤ o) (h2 : o ≤ 20) : opMany o = 1 := by unfold opMany; rw [if_neg (by omega), if_pos ⟨h1, h2⟩]
theorem right_kind {k : Int} {v : Int × Int × List UInt8} {t n : List UInt8} {o : Int} {args : List Ex} (h : rightF k v t n o args = true) : k = 1 ∨ k = 2 ∨ k = 3 ∨ k = 4 ∨ k = 5 := by
  unfold rightF at h
  repeat' split at h
  all_goals first | omega | cases h
theorem text_arg_len {x y : Ex} (hc : checkB x = true) (hy : y ∈ x.args) : (textE y).length ≤ (textE x).length := by
  have hr := checkB_right hc
  obtain ⟨k, v, t, n, o, args⟩ := x
  replace hr : rightF k v t n o args = true := hr
  replace hy : y ∈ args := hy
  have hm : textE y ∈ args.map textE := List.mem_map_of_mem hy
  simp only [textE, textsE_map]
  rcases right_kind hr with rfl | rfl | rfl | rfl | rfl
  · unfold rightF at hr
    rw [if_pos rfl] at hr
    simp only [Bool.and_eq_true, List.isEmpty_iff] at hr
    rw [hr.1.1.2] at hy
    cases hy
  · unfold rightF at hr
    rw [if_neg (by decide), if_pos rfl] at hr
    simp only [Bool.and_eq_true, List.isEmpty_iff] at hr
    rw [hr.1.1.2] at hy
    cases hy
  · obtain ⟨h1, h2, h3, -⟩ := right_op hr
    unfold tellT
    rw [if_neg (by decide), if_neg (by decide), if_neg (by decide), if_neg (by decide)]
    by_cases h14 : o ≤ 14
    · rw [many_two h1 h14] at h3
      rw [many_two h1 h14, if_pos rfl]
      obtain ⟨a, b, rfl⟩ := two_of h3
      simp only [List.map_cons, List.map_nil, List.getD_cons_zero, List.getD_cons_succ, nestT, joinB, List.length_append]
      simp only [List.mem_cons, List.mem_nil_iff, or_false] at hy
      rcases hy with rfl | rfl <;> omega
    · rw [many_one (by omega) h2] at h3
      rw [many_one (by omega) h2, if_neg (by decide)]
      obtain ⟨a, rfl⟩ := one_of h3
      simp only [List.mem_cons, List.mem_nil_iff, or_false] at hy
      subst hy
      simp only [List.map_cons, List.map_nil, List.getD_cons_zero]
      split
      · simp only [callT, joinB, List.length_append]; omega
      split
      · simp only [nestT, joinB, List.length_append]; omega
      · simp only [nestT, joinB, List.length_append]; omega
  · unfold tellT
    rw [if_neg (by decide), if_neg (by decide), if_pos rfl]
    have := join_mem_len (s := [44, 32]) hm
    simp only [callT, List.length_append]
    omega
  · unfold tellT
    rw [if_neg (by decide), if_neg (by decide), if_neg (by decide), if_pos rfl]
    have hne : ¬ args.map textE = [] := fun e => by rw [e] at hm; cases hm
    rw [if_neg hne]
    have := join_mem_len (s := [44, 32]) hm
    simp only [callT, List.length_append]
    omega

end Go.Proofs.YtepkfkfedmbmnaaGreatDoor

namespace Go.Proofs.YtepkfkfedmbmnaaGreatDoor
open Go.RowKit
set_option maxRecDepth 100000

def wS1 : List UInt8 := [97, 32, 45, 32, 49, 32, 42, 32, 98, 46, 99, 32, 45, 32, 50]
def wT1 : List UInt8 := [40, 40, 97, 32, 45, 32, 40, 49, 32, 42, 32, 98, 46, 99, 41, 41, 32, 45, 32, 50, 41]
def wS2 : List UInt8 := [110, 111, 116, 32, 120, 32, 105, 115, 32, 110, 117, 108, 108, 32, 111, 114, 32, 121, 32, 124, 124, 32, 39, 122, 39, 32, 61, 32, 39, 121, 122, 39]
def wT2 : List UInt8 := [40, 40, 110, 111, 116, 32, 40, 120, 32, 105, 115, 32, 110, 117, 108, 108, 41, 41, 32, 111, 114, 32, 40, 40, 121, 32, 124, 124, 32, 39, 122, 39, 41, 32, 61, 32, 39, 121, 122, 39, 41, 41]
def wS3 : List UInt8 := [99, 111, 117, 110, 116, 40, 42, 41]
def wS4 : List UInt8 := [99, 111, 117, 110, 116, 40, 41]
def wS5 : List UInt8 := [49, 32, 61, 32, 50, 32, 61, 32, 51]
def wokB (s t : List UInt8) : Bool := (parseX s).1 == 0 && checkB (parseX s).2 && textE (parseX s).2 == t && decide (partsE (parseX s).2 ≤ 100) && t.length ≤ 1000
theorem w1_ok : wokB wS1 wT1 = true := by decide +kernel
theorem w2_ok : wokB wS2 wT2 = true := by decide +kernel
theorem w3_ok : wokB wS3 wS3 = true := by decide +kernel
theorem w4_no : ((parseX wS4).1 == 261) = true := by decide +kernel
theorem w5_no : ((parseX wS5).1 == 261) = true := by decide +kernel
structure OkT (s t : List UInt8) : Prop where
  no : (parseX s).1 = 0
  chk : checkB (parseX s).2 = true
  txt : textE (parseX s).2 = t
  few : partsE (parseX s).2 ≤ 100
  len : t.length ≤ 1000
theorem okT {s t : List UInt8} (h : wokB s t = true) : OkT s t := by
  unfold wokB at h
  simp only [Bool.and_eq_true, beq_iff_eq, decide_eq_true_eq] at h
  exact ⟨h.1.1.1.1, h.1.1.1.2, h.1.1.2, h.1.2, h.2⟩

end Go.Proofs.YtepkfkfedmbmnaaGreatDoor

namespace Go.Proofs.YtepkfkfedmbmnaaGreatDoor
open Go.RowKit
set_option maxRecDepth 100000

/-- A row of texts with room for them. -/
def StrsC (W : World) (sv : Value) (l : List (List UInt8)) : Prop := ∃ b cap, sv = .slice (some ⟨b, 0, none⟩) l.length cap ∧ l.length ≤ cap ∧ b < W.heap.size ∧ ∀ j (h : j < l.length), W.cell? ⟨b, j, none⟩ = some (S l[j])
theorem StrsC.bl {A B : World} {sv : Value} {l : List (List UInt8)} (h : StrsC A sv l) (hb : Bl A B) : StrsC B sv l := by
  obtain ⟨b, cap, e, hc, hl, hcs⟩ := h
  exact ⟨b, cap, e, hc, Nat.lt_of_lt_of_le hl hb.size, fun j hj => hb.cell (hcs j hj)⟩
theorem strsC_new (W : World) (l : List (List UInt8)) (cs : Array Value) (t : TypeId) (hcs : cs = (l.map fun s => S s).toArray) (n b : Nat) (hn : n = l.length) (hw : b = W.heap.size) : StrsC (W.alloc (.cells cs t)) (.slice (some ⟨b, 0, none⟩) n n) l := by
  subst hcs
  subst hn
  subst hw
  refine ⟨_, _, rfl, Nat.le_refl _, by simp, fun j hj => ?_⟩
  rw [Lib.cell_of_heap (heap_new W _)]
  simp [hj]
theorem join_any {W : World} {sv : Value} {l : List (List UInt8)} (h : StrsC W sv l) (sep : List UInt8) (hm : l.length ≤ 1000000) (hlen : (joinB sep l).length ≤ 100000000) :
    Calls Tryz.prog 124 #[sv, S sep] W fun e w' => e = .returned (S (joinB sep l)) ∧ Bl W w' := by
  obtain ⟨b, cap, rfl, hcap, hb, hc⟩ := h
  have e1 : (l.map fun s => (⟨s.toArray⟩ : ByteArray)).map (·.data.toList) = l := by simp [Function.comp_def]
  have hj := Tryz.strings_Join b 0 cap (l.map fun s => ⟨s.toArray⟩) ⟨sep.toArray⟩ W (fun j x hx => by
    rw [List.getElem?_map] at hx
    obtain ⟨s, hs, rfl⟩ := Option.map_eq_some_iff.1 hx
    obtain ⟨hl, e⟩ := List.getElem?_eq_some_iff.1 hs
    rw [Nat.zero_add, hc j hl, e]) hb (by simp; omega) (by simpa using hcap) (by
    rw [e1]
    show (Lib.join l sep).length ≤ _
    rw [← joinB_lib]; omega)
  rw [e1, List.length_map] at hj
  refine hj.mono ?_
  rintro e w' ⟨rfl, hw⟩
  refine ⟨?_, hw⟩
  show Ending.returned (.string ⟨(Lib.join l sep).toArray⟩) = _
  rw [← joinB_lib]
theorem add_str (a b : List UInt8) : (Value.string (⟨a.toArray⟩ ++ ⟨b.toArray⟩) : Value) = S (a ++ b) := congrArg Value.string (app_str a b)

--BEGIN1
set_option maxHeartbeats 1000000 in
theorem ecalledT_any {W : World} {sv : Value} {l : List (List UInt8)} (h : StrsC W sv l) (f : List UInt8) (hm : l.length ≤ 1000000) (hlen : (callT f l).length ≤ 100000000) :
    Calls Tryz.prog 102 #[S f, sv] W fun e w' => e = .returned (S (callT f l)) ∧ Bl W w' := by
  have hl2 : f.length + 1 + (joinB [44, 32] l).length + 1 ≤ 100000000 := by simp only [callT, List.length_append, List.length_singleton] at hlen; omega
  have HJ := Lib.hid (join_any h [44, 32] hm (by omega))
  obtain ⟨b, cap, rfl, -⟩ := h
  have HE : Hid (callT f l = f ++ [40] ++ joinB [44, 32] l ++ [41]) := rfl
  generalize joinB [44, 32] l = jl at *
  clear hlen
  go_enter Tryz.func102, Tryz.ntmps102
  go_wp2_with fail
  refine HJ.out.mono ?_
  rintro e w1 ⟨rfl, hb⟩
  go_wp2
  go_ret
  refine ⟨?_, hb⟩
  rw [HE.out]
  rfl
set_option maxHeartbeats 1000000 in
theorem enested_any {W : World} {sv : Value} {l : List (List UInt8)} (h : StrsC W sv l) (hm : l.length ≤ 1000000) (hlen : (nestT l).length ≤ 100000000) :
    Calls Tryz.prog 105 #[sv] W fun e w' => e = .returned (S (nestT l)) ∧ Bl W w' := by
  have hl2 : 1 + (joinB [32] l).length + 1 ≤ 100000000 := by simp only [nestT, List.length_append, List.length_singleton] at hlen; omega
  have HJ := Lib.hid (join_any h [32] hm (by omega))
  obtain ⟨b, cap, rfl, -⟩ := h
  have HE : Hid (nestT l = [40] ++ joinB [32] l ++ [41]) := rfl
  generalize joinB [32] l = jl at *
  clear hlen
  go_enter Tryz.func105, Tryz.ntmps105
  go_wp2_with fail
  refine HJ.out.mono ?_
  rintro e w1 ⟨rfl, hb⟩
  go_wp2
  go_ret
  refine ⟨?_, hb⟩
  rw [HE.out]
  rfl
--END1
theorem trim_dot {t n : List UInt8} (ht : t = [] ∨ nameB t = true) : Lib.trimPrefix (t ++ [46] ++ n) [46] = if t = [] then n else t ++ [46] ++ n := by
  by_cases h0 : t = []
  · subst h0
    rw [if_pos rfl]
    simp [Lib.trimPrefix, Lib.hasPrefix]
  · rw [if_neg h0]
    obtain ⟨⟨c, r, rfl, hl, -, -⟩, -⟩ := name_word (ht.resolve_left h0)
    have hc : c ≠ 46 := by
      rintro rfl
      exact absurd hl (by decide)
    simp [Lib.trimPrefix, Lib.hasPrefix, Ne.symm hc]
--BEGIN2
set_option maxHeartbeats 1000000 in
theorem told1_any (k n o : Int) (l t m : List UInt8) (v : Int) (a : Option Addr) (c d : Nat) (a' : Option Addr) (c' d' : Nat) (h : chk v n l = 0) (h0 : -9223372036854775808 ≤ n) (h1 : n ≤ 9223372036854775807) (w : World) (hG : Glob w) :
    Calls Tryz.prog 97 #[EV k (v, n, l) t m o (.slice a c d), .slice a' c' d'] w fun e w' => e = .returned (S (lit v n l)) ∧ Bl w w' := by
  have HG := Lib.hid hG
  have H := Lib.hid h
  clear hG h
  go_enter Tryz.func97, Tryz.ntmps97
  go_wp2_with fail
  (with_reducible refine (Literal_ok v n l H.out h0 h1 _ (HG.out.bl ((Bl.refl w).alloc _))).mono ?_)
  rintro e w1 ⟨rfl, hb⟩
  go_wp2
  go_ret
  exact ⟨rfl, ((Bl.refl w).alloc _).call hb⟩
set_option maxHeartbeats 1000000 in
theorem told2_any (k n o : Int) (l t m : List UInt8) (v : Int) (a : Option Addr) (c d : Nat) (a' : Option Addr) (c' d' : Nat) (ht : t = [] ∨ nameB t = true) (hlt : t.length ≤ 10000) (hlm : m.length ≤ 10000) (w : World) :
    Calls Tryz.prog 99 #[EV k (v, n, l) t m o (.slice a c d), .slice a' c' d'] w fun e w' => e = .returned (S (if t = [] then m else t ++ [46] ++ m)) ∧ Bl w w' := by
  obtain ⟨u, hu⟩ : ∃ u, u = if t = [] then m else t ++ [46] ++ m := ⟨_, rfl⟩
  have H := Lib.hid ((trim_dot (n := m) ht).trans hu.symm)
  rw [← hu]
  clear ht hu
  have e1 : ((⟨t.toArray⟩ : ByteArray) ++ ⟨#[46]⟩ ++ ⟨m.toArray⟩).data.toList = t ++ [46] ++ m := by simp
  have HJ : Hid (∀ w, Calls Tryz.prog 100 #[.string ((⟨t.toArray⟩ : ByteArray) ++ ⟨#[46]⟩ ++ ⟨m.toArray⟩), .string ⟨#[46]⟩] w fun e w' => e = .returned (S u) ∧ w' = w) := fun w => by
    refine (Tryz.strings_TrimPrefix _ _ _).mono ?_
    rintro e w1 ⟨rfl, rfl⟩
    rw [e1]
    exact ⟨congrArg (fun l : List UInt8 => Ending.returned (S l)) H.out, rfl⟩
  clear e1 H
  go_enter Tryz.func99, Tryz.ntmps99
  go_wp2_with fail
  refine (HJ.out _).mono ?_
  rintro e w1 ⟨rfl, rfl⟩
  go_wp2
  go_ret
  exact ⟨rfl, (Bl.refl w).alloc _⟩
set_option maxHeartbeats 1000000 in
theorem told3_any (k n o : Int) (l t m : List UInt8) (v : Int) (a : Option Addr) (c d : Nat) {sv : Value} {ls : List (List UInt8)} {w : World} (h : StrsC w sv ls) (hm : ls.length ≤ 1000000) (hlen : (callT sCoalesce ls).length ≤ 100000000) :
    Calls Tryz.prog 101 #[EV k (v, n, l) t m o (.slice a c d), sv] w fun e w' => e = .returned (S (callT sCoalesce ls)) ∧ Bl w w' := by
  have HJ := Lib.hid (ecalledT_any (h.bl ((Bl.refl w).alloc (.cells #[.int .i64 k, .int .i64 v, .int .i64 n, S l, S t, S m, .int .i64 o, .slice a c d] 30))) sCoalesce hm hlen)
  obtain ⟨b, cap, rfl, -⟩ := h
  go_enter Tryz.func101, Tryz.ntmps101
  go_wp2_with fail
  refine HJ.out.mono ?_
  rintro e w1 ⟨rfl, hb⟩
  go_wp2
  go_ret
  exact ⟨rfl, ((Bl.refl w).alloc _).call hb⟩
set_option maxHeartbeats 1000000 in
theorem told4_some (k n o : Int) (l t m : List UInt8) (v : Int) (a : Option Addr) (c d : Nat) {sv : Value} {ls : List (List UInt8)} {w : World} (h : StrsC w sv ls) (hne : ls ≠ []) (hm : ls.length ≤ 1000000) (hlen : (callT m ls).length ≤ 100000000) :
    Calls Tryz.prog 103 #[EV k (v, n, l) t m o (.slice a c d), sv] w fun e w' => e = .returned (S (callT m ls)) ∧ Bl w w' := by
  have HJ := Lib.hid (ecalledT_any (h.bl ((Bl.refl w).alloc (.cells #[.int .i64 k, .int .i64 v, .int .i64 n, S l, S t, S m, .int .i64 o, .slice a c d] 30))) m hm hlen)
  have hn0 : ((ls.length : Int) == 0) = false := by
    have : ls.length ≠ 0 := fun e => hne (List.eq_nil_of_length_eq_zero e)
    simp; omega
  obtain ⟨b, cap, rfl, -⟩ := h
  clear hne
  go_enter Tryz.func103, Tryz.ntmps103
  go_wp2_with fail
  refine HJ.out.mono ?_
  rintro e w1 ⟨rfl, hb⟩
  go_wp2
  go_ret
  exact ⟨rfl, ((Bl.refl w).alloc _).call hb⟩
set_option maxHeartbeats 1000000 in
theorem told4_none (k n o : Int) (l t m : List UInt8) (v : Int) (a a' : Option Addr) (c d d' : Nat) (hlm : m.length ≤ 10000) (w : World) :
    Calls Tryz.prog 103 #[EV k (v, n, l) t m o (.slice a c d), .slice a' 0 d'] w fun e w' => e = .returned (S (callT m [[42]])) ∧ Bl w w' := by
  go_enter Tryz.func103, Tryz.ntmps103
  go_wp2_with fail
  refine (ecalledT_any (strsC_new _ [[42]] _ _ rfl _ _ rfl (by simp)) m (by simp) (by simp [callT, joinB]; omega)).mono ?_
  rintro e w1 ⟨rfl, hb⟩
  go_wp2
  go_ret
  exact ⟨rfl, (((Bl.refl w).alloc _).alloc _).call hb⟩
--END2

end Go.Proofs.YtepkfkfedmbmnaaGreatDoor

namespace Go.Proofs.YtepkfkfedmbmnaaGreatDoor
open Go.RowKit
set_option maxRecDepth 100000

theorem op_len (o : Int) : (opName o).length ≤ 20 := by
  unfold opName
  split <;> simp
--BEGIN1
set_option maxHeartbeats 2000000 in
theorem told5_two (k n o : Int) (l t m : List UInt8) (v : Int) (a : Option Addr) (c d : Nat) {sv : Value} {x y : List UInt8} {w : World} (h : StrsC w sv [x, y]) (ho : 1 ≤ o ∧ o ≤ 14) (hlen : (nestT [x, opName o, y]).length ≤ 100000000) :
    Calls Tryz.prog 104 #[EV k (v, n, l) t m o (.slice a c d), sv] w fun e w' => e = .returned (S (nestT [x, opName o, y])) ∧ Bl w w' := by
  have H := Lib.hid h
  have HL := Lib.hid hlen
  obtain ⟨b, cap, rfl, -, hbl, -⟩ := h
  have ho1 : 1 ≤ o ∧ o ≤ 20 := by omega
  have hB0 := Lib.hid ((Bl.refl w).alloc (.cells #[.int .i64 k, .int .i64 v, .int .i64 n, S l, S t, S m, .int .i64 o, .slice a c d] 30))
  have hX := heap_new w (.cells #[.int .i64 k, .int .i64 v, .int .i64 n, S l, S t, S m, .int .i64 o, .slice a c d] 30)
  clear hlen
  go_enter Tryz.func104, Tryz.ntmps104
  go_wp2_with fail
  (with_reducible refine (sInfo_in o ho1 _).mono ?_)
  rintro e w1 ⟨rfl, hb1⟩
  have hB1 := Lib.hid (hB0.out.call hb1)
  have hX1 := (hb1.block _ (by simp)).trans hX
  have hlt1 := (Array.getElem?_eq_some_iff.1 hX1).1
  clear hX hb1
  obtain ⟨⟨e0, e1, e2, e3, e4, e5, e6, e7⟩, -⟩ := eight hX1
  obtain ⟨mm, hmm, hb2⟩ : ∃ mm : Int, Hid ((opMany o : Int) = mm) ∧ (mm == 2) = true := ⟨_, rfl, by rw [many_two ho.1 ho.2]; rfl⟩
  rw [hmm.out]
  go_wp2_with fail
  have hI := heap_new w1 (.cells #[S (opName o), .int .i64 mm, .int .i64 (opOf o), .int .i64 (opMakes o)] 88)
  have i0 : (w1.alloc (.cells #[S (opName o), .int .i64 mm, .int .i64 (opOf o), .int .i64 (opMakes o)] 88)).cell? ⟨w1.heap.size, 0, none⟩ = some (S (opName o)) := by rw [Lib.cell_of_heap hI]; rfl
  have hB2 := Lib.hid (hB1.out.alloc (.cells #[S (opName o), .int .i64 mm, .int .i64 (opOf o), .int .i64 (opMakes o)] 88))
  obtain ⟨b', cap', eb, -, -, hc⟩ := (H.out.bl hB2.out)
  obtain ⟨rfl, rfl⟩ : b = b' ∧ cap = cap' := by simpa using eb
  have c0 := hc 0 (by simp)
  have c1 : _ = some (S y) := hc 1 (by simp)
  simp only [List.getElem_cons_zero] at c0
  clear hc eb hI e0 e1 e2 e3 e4 e5 e6 e7 hX1
  generalize w1.alloc (.cells #[S (opName o), .int .i64 mm, .int .i64 (opOf o), .int .i64 (opMakes o)] 88) = w2 at *
  go_still_tail 8, (by kernel_rfl)
  go_wp2_with fail
  refine (enested_any ((strsC_new w2 [x, opName o, y] _ _ rfl _ _ rfl rfl).bl ((Bl.refl _).drew)) (by simp) HL.out).mono ?_
  rintro e w3 ⟨rfl, hb⟩
  go_wp2
  go_ret
  exact ⟨rfl, ((hB2.out.alloc _).drew).call hb⟩
--END1
--BEGIN2
set_option maxHeartbeats 2000000 in
theorem told5_call (k n o : Int) (l t m : List UInt8) (v : Int) (a : Option Addr) (c d : Nat) {sv : Value} {x : List UInt8} {w : World} (h : StrsC w sv [x]) (ho : 19 ≤ o ∧ o ≤ 20) (hlen : (callT (opName o) [x]).length ≤ 100000000) :
    Calls Tryz.prog 104 #[EV k (v, n, l) t m o (.slice a c d), sv] w fun e w' => e = .returned (S (callT (opName o) [x])) ∧ Bl w w' := by
  have H := Lib.hid h
  have HL := Lib.hid hlen
  obtain ⟨b, cap, rfl, -, hbl, -⟩ := h
  have ho1 : 1 ≤ o ∧ o ≤ 20 := by omega
  have hB0 := Lib.hid ((Bl.refl w).alloc (.cells #[.int .i64 k, .int .i64 v, .int .i64 n, S l, S t, S m, .int .i64 o, .slice a c d] 30))
  have hX := heap_new w (.cells #[.int .i64 k, .int .i64 v, .int .i64 n, S l, S t, S m, .int .i64 o, .slice a c d] 30)
  clear hlen
  go_enter Tryz.func104, Tryz.ntmps104
  go_wp2_with fail
  (with_reducible refine (sInfo_in o ho1 _).mono ?_)
  rintro e w1 ⟨rfl, hb1⟩
  have hB1 := Lib.hid (hB0.out.call hb1)
  have hX1 := (hb1.block _ (by simp)).trans hX
  have hlt1 := (Array.getElem?_eq_some_iff.1 hX1).1
  clear hX hb1
  obtain ⟨⟨e0, e1, e2, e3, e4, e5, e6, e7⟩, -⟩ := eight hX1
  have hmn : opMany o = 1 := many_one (by omega) ho.2
  rw [hmn]
  have HJ := Lib.hid (ecalledT_any ((H.out.bl hB1.out).bl ((Bl.refl w1).alloc (.cells #[S (opName o), .int .i64 ((1 : Nat) : Int), .int .i64 (opOf o), .int .i64 (opMakes o)] 88))) (opName o) (by simp) HL.out)
  have ho' : o = 19 ∨ o = 20 := by omega
  rcases ho' with rfl | rfl
  all_goals
    go_wp2_with fail
    refine HJ.out.mono ?_
    rintro e w2 ⟨rfl, hb⟩
    go_wp2
    go_ret
    exact ⟨rfl, (hB1.out.alloc _).call hb⟩
--END2
--BEGIN3
set_option maxHeartbeats 2000000 in
theorem told5_is (k n o : Int) (l t m : List UInt8) (v : Int) (a : Option Addr) (c d : Nat) {sv : Value} {x : List UInt8} {w : World} (h : StrsC w sv [x]) (ho : 17 ≤ o ∧ o ≤ 18) (hlen : (nestT [x, opName o]).length ≤ 100000000) :
    Calls Tryz.prog 104 #[EV k (v, n, l) t m o (.slice a c d), sv] w fun e w' => e = .returned (S (nestT [x, opName o])) ∧ Bl w w' := by
  have H := Lib.hid h
  have HL := Lib.hid hlen
  obtain ⟨b, cap, rfl, -, hbl, -⟩ := h
  have ho1 : 1 ≤ o ∧ o ≤ 20 := by omega
  have hB0 := Lib.hid ((Bl.refl w).alloc (.cells #[.int .i64 k, .int .i64 v, .int .i64 n, S l, S t, S m, .int .i64 o, .slice a c d] 30))
  have hX := heap_new w (.cells #[.int .i64 k, .int .i64 v, .int .i64 n, S l, S t, S m, .int .i64 o, .slice a c d] 30)
  clear hlen
  go_enter Tryz.func104, Tryz.ntmps104
  go_wp2_with fail
  (with_reducible refine (sInfo_in o ho1 _).mono ?_)
  rintro e w1 ⟨rfl, hb1⟩
  have hB1 := Lib.hid (hB0.out.call hb1)
  have hX1 := (hb1.block _ (by simp)).trans hX
  have hlt1 := (Array.getElem?_eq_some_iff.1 hX1).1
  clear hX hb1
  obtain ⟨⟨e0, e1, e2, e3, e4, e5, e6, e7⟩, -⟩ := eight hX1
  obtain ⟨mm, hmm, hb2⟩ : ∃ mm : Int, Hid ((opMany o : Int) = mm) ∧ (mm == 2) = false := ⟨_, rfl, by rw [many_one (by omega) (by omega)]; rfl⟩
  rw [hmm.out]
  have b19 : (o == 19) = false := by simp; omega
  have b20 : (o == 20) = false := by simp; omega
  have ho' : (o == 17) = true ∨ (o == 17) = false ∧ (o == 18) = true := by
    by_cases h : o = 17
    · left; simpa using h
    · right; exact ⟨by simpa using h, by simp; omega⟩
  clear ho ho1
  rcases ho' with b17 | ⟨b17, b18⟩
  all_goals
    go_wp2_with fail
    have hI := heap_new w1 (.cells #[S (opName o), .int .i64 mm, .int .i64 (opOf o), .int .i64 (opMakes o)] 88)
    have i0 : (w1.alloc (.cells #[S (opName o), .int .i64 mm, .int .i64 (opOf o), .int .i64 (opMakes o)] 88)).cell? ⟨w1.heap.size, 0, none⟩ = some (S (opName o)) := by rw [Lib.cell_of_heap hI]; rfl
    have hB2 := Lib.hid (hB1.out.alloc (.cells #[S (opName o), .int .i64 mm, .int .i64 (opOf o), .int .i64 (opMakes o)] 88))
    obtain ⟨b', cap', eb, -, -, hc⟩ := (H.out.bl hB2.out)
    obtain ⟨rfl, rfl⟩ : b = b' ∧ cap = cap' := by simpa using eb
    have c0 := hc 0 (by simp)
    skip
    simp only [List.getElem_cons_zero] at c0
    clear hc eb hI e0 e1 e2 e3 e4 e5 e6 e7 hX1
    generalize w1.alloc (.cells #[S (opName o), .int .i64 mm, .int .i64 (opOf o), .int .i64 (opMakes o)] 88) = w2 at *
    go_still_tail 5, (by kernel_rfl)
    go_wp2_with fail
    refine (enested_any ((strsC_new w2 [x, opName o] _ _ rfl _ _ rfl rfl).bl ((Bl.refl _).drew)) (by simp) HL.out).mono ?_
    rintro e w3 ⟨rfl, hb⟩
    go_wp2
    go_ret
    exact ⟨rfl, ((hB2.out.alloc _).drew).call hb⟩
--END3
--BEGIN4
set_option maxHeartbeats 2000000 in
theorem told5_un (k n o : Int) (l t m : List UInt8) (v : Int) (a : Option Addr) (c d : Nat) {sv : Value} {x : List UInt8} {w : World} (h : StrsC w sv [x]) (ho : 15 ≤ o ∧ o ≤ 16) (hlen : (nestT [opName o, x]).length ≤ 100000000) :
    Calls Tryz.prog 104 #[EV k (v, n, l) t m o (.slice a c d), sv] w fun e w' => e = .returned (S (nestT [opName o, x])) ∧ Bl w w' := by
  have H := Lib.hid h
  have HL := Lib.hid hlen
  obtain ⟨b, cap, rfl, -, hbl, -⟩ := h
  have ho1 : 1 ≤ o ∧ o ≤ 20 := by omega
  have hB0 := Lib.hid ((Bl.refl w).alloc (.cells #[.int .i64 k, .int .i64 v, .int .i64 n, S l, S t, S m, .int .i64 o, .slice a c d] 30))
  have hX := heap_new w (.cells #[.int .i64 k, .int .i64 v, .int .i64 n, S l, S t, S m, .int .i64 o, .slice a c d] 30)
  clear hlen
  go_enter Tryz.func104, Tryz.ntmps104
  go_wp2_with fail
  (with_reducible refine (sInfo_in o ho1 _).mono ?_)
  rintro e w1 ⟨rfl, hb1⟩
  have hB1 := Lib.hid (hB0.out.call hb1)
  have hX1 := (hb1.block _ (by simp)).trans hX
  have hlt1 := (Array.getElem?_eq_some_iff.1 hX1).1
  clear hX hb1
  obtain ⟨⟨e0, e1, e2, e3, e4, e5, e6, e7⟩, -⟩ := eight hX1
  obtain ⟨mm, hmm, hb2⟩ : ∃ mm : Int, Hid ((opMany o : Int) = mm) ∧ (mm == 2) = false := ⟨_, rfl, by rw [many_one (by omega) (by omega)]; rfl⟩
  rw [hmm.out]
  have b19 : (o == 19) = false := by simp; omega
  have b20 : (o == 20) = false := by simp; omega
  have b17 : (o == 17) = false := by simp; omega
  have b18 : (o == 18) = false := by simp; omega
  clear ho ho1
  go_wp2_with fail
  have hI := heap_new w1 (.cells #[S (opName o), .int .i64 mm, .int .i64 (opOf o), .int .i64 (opMakes o)] 88)
  have i0 : (w1.alloc (.cells #[S (opName o), .int .i64 mm, .int .i64 (opOf o), .int .i64 (opMakes o)] 88)).cell? ⟨w1.heap.size, 0, none⟩ = some (S (opName o)) := by rw [Lib.cell_of_heap hI]; rfl
  have hB2 := Lib.hid (hB1.out.alloc (.cells #[S (opName o), .int .i64 mm, .int .i64 (opOf o), .int .i64 (opMakes o)] 88))
  obtain ⟨b', cap', eb, -, -, hc⟩ := (H.out.bl hB2.out)
  obtain ⟨rfl, rfl⟩ : b = b' ∧ cap = cap' := by simpa using eb
  have c0 := hc 0 (by simp)
  skip
  simp only [List.getElem_cons_zero] at c0
  clear hc eb hI e0 e1 e2 e3 e4 e5 e6 e7 hX1
  generalize w1.alloc (.cells #[S (opName o), .int .i64 mm, .int .i64 (opOf o), .int .i64 (opMakes o)] 88) = w2 at *
  go_still_tail 5, (by kernel_rfl)
  go_wp2_with fail
  refine (enested_any ((strsC_new w2 [opName o, x] _ _ rfl _ _ rfl rfl).bl ((Bl.refl _).drew)) (by simp) HL.out).mono ?_
  rintro e w3 ⟨rfl, hb⟩
  go_wp2
  go_ret
  exact ⟨rfl, ((hB2.out.alloc _).drew).call hb⟩
--END4

end Go.Proofs.YtepkfkfedmbmnaaGreatDoor

namespace Go.Proofs.YtepkfkfedmbmnaaGreatDoor
open Go.RowKit
set_option maxRecDepth 100000

abbrev tAll : Array MapEntry := #[lE 1 97 0, lE 2 99 1, lE 4 101 2, lE 5 103 3, lE 3 104 4]
/-- Which function tells the texts of a kind. -/
def toldF (k : Int) : FuncId := if k = 1 then 97 else if k = 2 then 99 else if k = 4 then 101 else if k = 5 then 103 else 104
theorem tins0 (w : World) : (Instr.mapUpdate 110 (.map (some w.heap.size)) (.int .i64 1) (.func (.func 97) #[] #[])).run Tryz.prog (w.alloc (.map #[] 0)) = .ok () (w.alloc (.map #[lE 1 97 0] 1)) :=
  run_insert_int Tryz.underlying110 Tryz.underlying23 w #[] 0 1 _ rfl
theorem tins1 (w : World) : (Instr.mapUpdate 110 (.map (some w.heap.size)) (.int .i64 2) (.func (.func 99) #[] #[])).run Tryz.prog (w.alloc (.map #[lE 1 97 0] 1)) = .ok () (w.alloc (.map #[lE 1 97 0, lE 2 99 1] 2)) :=
  run_insert_int Tryz.underlying110 Tryz.underlying23 w #[lE 1 97 0] 1 2 _ rfl
theorem tins2 (w : World) : (Instr.mapUpdate 110 (.map (some w.heap.size)) (.int .i64 4) (.func (.func 101) #[] #[])).run Tryz.prog (w.alloc (.map #[lE 1 97 0, lE 2 99 1] 2)) = .ok () (w.alloc (.map #[lE 1 97 0, lE 2 99 1, lE 4 101 2] 3)) :=
  run_insert_int Tryz.underlying110 Tryz.underlying23 w #[lE 1 97 0, lE 2 99 1] 2 4 _ rfl
theorem tins3 (w : World) : (Instr.mapUpdate 110 (.map (some w.heap.size)) (.int .i64 5) (.func (.func 103) #[] #[])).run Tryz.prog (w.alloc (.map #[lE 1 97 0, lE 2 99 1, lE 4 101 2] 3)) = .ok () (w.alloc (.map #[lE 1 97 0, lE 2 99 1, lE 4 101 2, lE 5 103 3] 4)) :=
  run_insert_int Tryz.underlying110 Tryz.underlying23 w #[lE 1 97 0, lE 2 99 1, lE 4 101 2] 3 5 _ rfl
theorem tins4 (w : World) : (Instr.mapUpdate 110 (.map (some w.heap.size)) (.int .i64 3) (.func (.func 104) #[] #[])).run Tryz.prog (w.alloc (.map #[lE 1 97 0, lE 2 99 1, lE 4 101 2, lE 5 103 3] 4)) = .ok () (w.alloc (.map tAll 5)) :=
  run_insert_int Tryz.underlying110 Tryz.underlying23 w #[lE 1 97 0, lE 2 99 1, lE 4 101 2, lE 5 103 3] 4 3 _ rfl
set_option maxHeartbeats 400000 in
theorem told_any (w : World) : Calls Tryz.prog 68 #[] w fun e w' => e = .returned (.map (some w.heap.size)) ∧ w' = w.alloc (.map tAll 5) := by
  have hmm := @run_makeMap Tryz.prog
  have h0 := tins0
  have h1 := tins1
  have h2 := tins2
  have h3 := tins3
  have h4 := tins4
  go_enter Tryz.func68, Tryz.ntmps68
  go_wp2
  go_ret
  exact ⟨rfl, rfl⟩
theorem look_told {w : World} {r : Nat} (hb : w.heap[r]? = some (.map tAll 5)) {k : Int} (hk : k = 1 ∨ k = 2 ∨ k = 3 ∨ k = 4 ∨ k = 5) :
    (Instr.lookup 110 (.map (some r)) (.int .i64 k) false).run Tryz.prog w = .ok (.func (.func (toldF k)) #[] #[]) w := by
  rcases hk with rfl | rfl | rfl | rfl | rfl
  · exact run_lookup_int Tryz.underlying110 Tryz.underlying23 hb (i := 0) rfl
  · exact run_lookup_int Tryz.underlying110 Tryz.underlying23 hb (i := 1) rfl
  · exact run_lookup_int Tryz.underlying110 Tryz.underlying23 hb (i := 4) rfl
  · exact run_lookup_int Tryz.underlying110 Tryz.underlying23 hb (i := 2) rfl
  · exact run_lookup_int Tryz.underlying110 Tryz.underlying23 hb (i := 3) rfl
theorem enters_toldF (k : Int) (args : Array Value) (w : World) : (callFunc (toldF k) args).run Tryz.prog w = .ok (.enter (toldF k) args) w := by
  unfold toldF
  split
  · simp [go_sem]
  split
  · simp [go_sem]
  split
  · simp [go_sem]
  split
  · simp [go_sem]
  · simp [go_sem]
theorem name_len {s : List UInt8} (h : nameB s = true) : s.length ≤ 10000 := by
  obtain ⟨⟨c, r, -, -, -, hl⟩, -⟩ := name_word h
  omega
theorem sum_len {s : List UInt8} (h : sumNames.contains s = true) : s.length ≤ 10000 := by
  have : s = sCount ∨ s = sSum ∨ s = sMin ∨ s = sMax := by simpa [sumNames] using h
  rcases this with rfl | rfl | rfl | rfl <;> decide
/-- The text of what may be, of the texts of what is in it. -/
theorem etells_any {k v1 v2 o : Int} {v3 t n : List UInt8} {args : List Ex} (hr : rightF k (v1, v2, v3) t n o args = true) (hi : I64 v2) {a : Option Addr} {c : Nat} {sv : Value} {ls : List (List UInt8)} (hls : ls.length = args.length) (hfew : ls.length ≤ 1000000) (hlen : (tellT k (v1, v2, v3) t n o ls).length ≤ 100000000) (w : World) (hG : Glob w)
    (hS : (ls = [] ∧ ∃ a' d', sv = .slice a' 0 d') ∨ StrsC w sv ls) :
    Calls Tryz.prog (toldF k) #[EV k (v1, v2, v3) t n o (.slice a args.length c), sv] w fun e w' => e = .returned (S (tellT k (v1, v2, v3) t n o ls)) ∧ Bl w w' := by
  have hsv : ∃ a' m' d', sv = .slice a' m' d' := by
    rcases hS with ⟨-, a', d', e⟩ | ⟨b, cap, e, -⟩
    · exact ⟨_, _, _, e⟩
    · exact ⟨_, _, _, e⟩
  have hS' : ls ≠ [] → StrsC w sv ls := fun h => by
    rcases hS with ⟨e, -⟩ | h2
    · exact absurd e h
    · exact h2
  unfold rightF at hr
  rcases right_kind (by unfold rightF; exact hr) with rfl | rfl | rfl | rfl | rfl
  · rw [if_pos rfl] at hr
    simp only [Bool.and_eq_true, beq_iff_eq] at hr
    obtain ⟨a', m', d', rfl⟩ := hsv
    exact told1_any 1 v2 o v3 t n v1 a args.length c a' m' d' hr.1.2 hi.1 hi.2 w hG
  · rw [if_neg (by decide), if_pos rfl] at hr
    simp only [Bool.and_eq_true, Bool.or_eq_true, beq_iff_eq] at hr
    obtain ⟨a', m', d', rfl⟩ := hsv
    exact told2_any 2 v2 o v3 t n v1 a args.length c a' m' d' hr.2 (hr.2.elim (fun h => by rw [h]; simp) name_len) (name_len hr.1.2) w
  · obtain ⟨h1, h2, h3, -⟩ := right_op (v := (v1, v2, v3)) (t := t) (n := n) (o := o) (args := args) (by unfold rightF; exact hr)
    have e3 : tellT 3 (v1, v2, v3) t n o ls = if opMany o = 2 then nestT [ls.getD 0 [], opName o, ls.getD 1 []] else if o = 19 ∨ o = 20 then callT (opName o) ls else if o = 17 ∨ o = 18 then nestT [ls.getD 0 [], opName o] else nestT [opName o, ls.getD 0 []] := by
      unfold tellT
      rw [if_neg (by decide), if_neg (by decide), if_neg (by decide), if_neg (by decide)]
    rw [e3] at hlen ⊢
    by_cases h14 : o ≤ 14
    · rw [many_two h1 h14] at h3
      rw [if_pos (many_two h1 h14)] at hlen ⊢
      obtain ⟨x, y, rfl⟩ := two_of (hls.trans h3)
      exact told5_two 3 v2 o v3 t n v1 a args.length c (hS' (by simp)) ⟨h1, h14⟩ hlen
    · have hm1 := many_one (o := o) (by omega) h2
      rw [hm1] at h3
      rw [if_neg (by rw [hm1]; decide)] at hlen ⊢
      obtain ⟨x, rfl⟩ := one_of (hls.trans h3)
      by_cases h19 : o = 19 ∨ o = 20
      · rw [if_pos h19] at hlen ⊢
        exact told5_call 3 v2 o v3 t n v1 a args.length c (hS' (by simp)) (by omega) hlen
      · rw [if_neg h19] at hlen ⊢
        by_cases h17 : o = 17 ∨ o = 18
        · rw [if_pos h17] at hlen ⊢
          exact told5_is 3 v2 o v3 t n v1 a args.length c (hS' (by simp)) (by omega) hlen
        · rw [if_neg h17] at hlen ⊢
          exact told5_un 3 v2 o v3 t n v1 a args.length c (hS' (by simp)) (by omega) hlen
  · have e4 : tellT 4 (v1, v2, v3) t n o ls = callT sCoalesce ls := rfl
    rw [e4] at hlen ⊢
    have hne : ls ≠ [] := by
      rintro rfl
      rw [if_neg (by decide), if_neg (by decide), if_neg (by decide), if_pos rfl] at hr
      cases args with
      | nil => simp at hr
      | cons x r => simp at hls
    exact told3_any 4 v2 o v3 t n v1 a args.length c (hS' hne) hfew hlen
  · rw [if_neg (by decide), if_neg (by decide), if_neg (by decide), if_neg (by decide), if_pos rfl] at hr
    simp only [Bool.and_eq_true] at hr
    have hln := sum_len hr.1.2
    have e5 : tellT 5 (v1, v2, v3) t n o ls = callT n (if ls = [] then [[42]] else ls) := rfl
    rw [e5] at hlen ⊢
    by_cases h0 : ls = []
    · subst h0
      rw [if_pos rfl]
      rcases hS with ⟨-, a', d', rfl⟩ | ⟨b, cap, rfl, -⟩
      · exact told4_none 5 v2 o v3 t n v1 a a' args.length c d' hln w
      · exact told4_none 5 v2 o v3 t n v1 a (some ⟨b, 0, none⟩) args.length c cap hln w
    · rw [if_neg h0] at hlen ⊢
      exact told4_some 5 v2 o v3 t n v1 a args.length c (hS' h0) h0 hfew hlen

end Go.Proofs.YtepkfkfedmbmnaaGreatDoor

