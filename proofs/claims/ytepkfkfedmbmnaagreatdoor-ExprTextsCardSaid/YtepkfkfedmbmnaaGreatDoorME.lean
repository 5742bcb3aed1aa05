/- Expressions in plain words: which may be, their texts, how they are read from tokens. Expressions in plain words: which may be, their texts, the same, sums; as values in memory. Reading comes to an end. Texts that are read as tokens, one behind the other. An expression's text is read as its tokens. The expression of its tokens. The expression of its tokens: all kinds. The expression of its text is it. Expressions' slices that are made. How many steps is no matter; the expression of a text in plain words. -/
import Derived.Test.YtepkfkfedmbmnaaGreatDoorMS
import Derived.Test.YtepkfkfedmbmnaaGreatDoorPL
namespace Go.Proofs.YtepkfkfedmbmnaaGreatDoor
open Go.RowKit
set_option maxRecDepth 100000

/-- An expression: its kind, value, table, name, operator, arguments. -/
inductive Ex where
  | mk (k : Int) (v : Int × Int × List UInt8) (t n : List UInt8) (o : Int) (args : List Ex)
def Ex.k : Ex → Int | .mk k _ _ _ _ _ => k
def Ex.v : Ex → Int × Int × List UInt8 | .mk _ v _ _ _ _ => v
def Ex.t : Ex → List UInt8 | .mk _ _ t _ _ _ => t
def Ex.n : Ex → List UInt8 | .mk _ _ _ n _ _ => n
def Ex.o : Ex → Int | .mk _ _ _ _ o _ => o
def Ex.args : Ex → List Ex | .mk _ _ _ _ _ l => l
theorem Ex.eta (x : Ex) : x = .mk x.k x.v x.t x.n x.o x.args := by cases x; rfl

/-- The operators' names. -/
def opName : Int → List UInt8
  | 1 => [43]
  | 2 => [45]
  | 3 => [42]
  | 4 => [47]
  | 5 => [37]
  | 6 => [124, 124]
  | 7 => [61]
  | 8 => [60, 62]
  | 9 => [60]
  | 10 => [60, 61]
  | 11 => [62]
  | 12 => [62, 61]
  | 13 => [97, 110, 100]
  | 14 => [111, 114]
  | 15 => [45]
  | 16 => [110, 111, 116]
  | 17 => [105, 115, 32, 110, 117, 108, 108]
  | 18 => [105, 115, 32, 110, 111, 116, 32, 110, 117, 108, 108]
  | 19 => [108, 101, 110, 103, 116, 104]
  | 20 => [97, 98, 115]
  | _ => []
/-- How many arguments an operator has. -/
def opMany (o : Int) : Nat := if 1 ≤ o ∧ o ≤ 14 then 2 else if 15 ≤ o ∧ o ≤ 20 then 1 else 0

def sCount : List UInt8 := [99, 111, 117, 110, 116]
def sSum : List UInt8 := [115, 117, 109]
def sMin : List UInt8 := [109, 105, 110]
def sMax : List UInt8 := [109, 97, 120]
def sCoalesce : List UInt8 := [99, 111, 97, 108, 101, 115, 99, 101]
def sLength : List UInt8 := [108, 101, 110, 103, 116, 104]
def sAbs : List UInt8 := [97, 98, 115]
def sNot : List UInt8 := [110, 111, 116]
def sIs : List UInt8 := [105, 115]
def sNull : List UInt8 := [110, 117, 108, 108]
def sFalse : List UInt8 := [102, 97, 108, 115, 101]
def sTrue : List UInt8 := [116, 114, 117, 101]
def sumNames : List (List UInt8) := [sCount, sSum, sMin, sMax]

/-! How expressions are read. -/
/-- What reading comes to: an error; or the place behind it, and the expression; 'out': it was stopped too early. -/
inductive Res where
  | out
  | bad (e : Int)
  | good (k : Nat) (x : Ex)
def Res.bind : Res → (Nat → Ex → Res) → Res
  | .out, _ => .out
  | .bad e, _ => .bad e
  | .good k x, f => f k x
def opE (o : Int) (l : List Ex) : Ex := .mk 3 (0, 0, []) [] [] o l
def valE (v : Int × Int × List UInt8) : Ex := .mk 1 v [] [] 0 []
def colE (t n : List UInt8) : Ex := .mk 2 (0, 0, []) t n 0 []
def zeroE : Ex := .mk 0 (0, 0, []) [] [] 0 []

/-- A level's operators. -/
def levelOps : Nat → List Int
  | 0 => [14]
  | 1 => [13]
  | 3 => [7, 8, 9, 10, 11, 12]
  | 4 => [6]
  | 5 => [1, 2]
  | 6 => [3, 4, 5]
  | _ => []
/-- The operator that comes next, of some; where it ends. -/
def takenK (ts : List Tok) (k : Nat) : List Int → Option (Int × Nat)
  | [] => none
  | o :: r => match takeK ts k [opName o] with
    | some k' => some (o, k')
    | none => takenK ts k r
/-- A name that comes next; where it ends. -/
def nameK (ts : List Tok) (k : Nat) : Option (List UInt8 × Nat) := match ts[k]? with
  | some x => if isName1 x then some (x.t, nextK ts.length k) else none
  | none => none

/-- What is to be read. -/
inductive Job where
  | rd (n k d : Nat)
  | lp (n k d : Nat) (x : Ex)
  | args (nm : List UInt8) (k d : Nat) (acc : List Ex)

/-- One deeper. -/
def deeperR (d : Nat) (r : Res) : Res := if d < 60 then r else .bad 260
/-- What a function's call comes to, of its arguments. -/
def callE (nm : List UInt8) (l : List Ex) : Ex :=
  if nm = sLength then opE 19 l else if nm = sAbs then opE 20 l else if nm = sCoalesce then .mk 4 (0, 0, []) [] [] 0 l else .mk 5 (0, 0, []) [] nm 0 l
def knownF (nm : List UInt8) : Bool := nm == sLength || nm == sAbs || nm == sCoalesce || sumNames.contains nm
def calledR (ts : List Tok) (run : Job → Res) (nm : List UInt8) (k d : Nat) : Res :=
  if knownF nm = false then .bad 261
  else if nm = sCount then match takeK ts k [[42], [41]] with
    | some k' => .good k' (callE nm [])
    | none => run (.args nm k d [])
  else run (.args nm k d [])
def constR (ts : List Tok) (k : Nat) : List (List UInt8 × Int) → Option (Nat × Int)
  | [] => none
  | (s, i) :: r => match takeK ts k [s] with
    | some k' => some (k', i)
    | none => constR ts k r
def aloneR (ts : List Tok) (run : Job → Res) (k d : Nat) : Res := match ts[k]? with
  | none => .out
  | some x => if x.k = 2 then .good (nextK ts.length k) (valE x.v)
    else match constR ts k [(sFalse, 0), (sTrue, 1), (sNull, 2)] with
      | some (k', i) => .good k' (valE (ofK i, ofN i, []))
      | none => match takeK ts k [[40]] with
        | some k' => (deeperR d (run (.rd 0 k' (d + 1)))).bind fun k2 y => match takeK ts k2 [[41]] with
          | some k3 => .good k3 y
          | none => .bad 261
        | none => match nameK ts k with
          | none => .bad 261
          | some (nm, k1) => match takeK ts k1 [[40]] with
            | some k2 => calledR ts run nm k2 d
            | none => match takeK ts k1 [[46]] with
              | some k2 => match nameK ts k2 with
                | none => .bad 261
                | some (c, k3) => .good k3 (colE nm c)
              | none => .good k1 (colE [] nm)
def cmpR (ts : List Tok) (run : Job → Res) (k d : Nat) : Res :=
  (run (.rd 4 k d)).bind fun k1 x => match takenK ts k1 (levelOps 3) with
    | some (o, k2) => (run (.rd 4 k2 d)).bind fun k3 y => .good k3 (opE o [x, y])
    | none => match takeK ts k1 [sIs, sNull] with
      | some k2 => .good k2 (opE 17 [x])
      | none => match takeK ts k1 [sIs, sNot, sNull] with
        | some k2 => .good k2 (opE 18 [x])
        | none => .good k1 x
def stepR (ts : List Tok) (run : Job → Res) : Job → Res
  | .rd n k d =>
    if n = 2 then match takeK ts k [sNot] with
      | some k' => (deeperR d (run (.rd 2 k' (d + 1)))).bind fun k2 y => .good k2 (opE 16 [y])
      | none => run (.rd 3 k d)
    else if n = 7 then match takeK ts k [[45]] with
      | some k' => (deeperR d (run (.rd 7 k' (d + 1)))).bind fun k2 y => .good k2 (opE 15 [y])
      | none => aloneR ts run k d
    else if n = 3 then cmpR ts run k d
    else (run (.rd (n + 1) k d)).bind fun k1 x => run (.lp n k1 d x)
  | .lp n k d x => match takenK ts k (levelOps n) with
    | none => .good k x
    | some (o, k') => (run (.rd (n + 1) k' d)).bind fun k2 y => run (.lp n k2 d (opE o [x, y]))
  | .args nm k d acc => (deeperR d (run (.rd 0 k (d + 1)))).bind fun k1 x =>
    match (if nm = sCoalesce then takeK ts k1 [[44]] else none) with
    | some k2 => run (.args nm k2 d (acc ++ [x]))
    | none => match takeK ts k1 [[41]] with
      | some k2 => .good k2 (callE nm (acc ++ [x]))
      | none => .bad 261
/-- Reading, in so many steps. -/
def runR (ts : List Tok) : Nat → Job → Res
  | 0, _ => .out
  | f + 1, j => stepR ts (runR ts f) j

end Go.Proofs.YtepkfkfedmbmnaaGreatDoor

namespace Go.Proofs.YtepkfkfedmbmnaaGreatDoor
open Go.RowKit
set_option maxRecDepth 100000

/-- Is a text a name? -/
def nameB (s : List UInt8) : Bool := if 4000 < s.length then false else match toksO s with
  | some [x] => isName1 x && (x.t == s)
  | _ => false
/-- May an expression be, what is in it aside? -/
def rightF (k : Int) (v : Int × Int × List UInt8) (t n : List UInt8) (o : Int) (args : List Ex) : Bool :=
  if k = 1 then (t == [] && n == [] && o == 0 && args.isEmpty) && (chk v.1 v.2.1 v.2.2 == 0) && (v.1 != 2 || decide (0 ≤ v.2.1))
  else if k = 2 then (v == (0, 0, []) && o == 0 && args.isEmpty) && nameB n && (t == [] || nameB t)
  else if k = 3 then (v == (0, 0, []) && t == [] && n == []) && decide (1 ≤ o ∧ o ≤ 20) && args.length == opMany o
  else if k = 4 then (v == (0, 0, []) && t == [] && n == [] && o == 0) && !args.isEmpty
  else if k = 5 then (v == (0, 0, []) && t == [] && o == 0) && sumNames.contains n && (args.length == 1 || args.isEmpty && n == sCount)
  else false
def rightB (x : Ex) : Bool := rightF x.k x.v x.t x.n x.o x.args
mutual
/-- May it be? -/
def checkB : Ex → Bool
  | .mk k v t n o args => rightB (.mk k v t n o args) && checksB args
def checksB : List Ex → Bool
  | [] => true
  | x :: r => checkB x && checksB r
end
mutual
/-- Does it sum up rows? -/
def sumsB : Ex → Bool
  | .mk k _ _ _ _ args => k == 5 || sumsBs args
def sumsBs : List Ex → Bool
  | [] => false
  | x :: r => sumsB x || sumsBs r
end
/-- Texts with a sign between. -/
def joinB (s : List UInt8) : List (List UInt8) → List UInt8
  | [] => []
  | [x] => x
  | x :: r => x ++ s ++ joinB s r
/-- A function's text. -/
def callT (f : List UInt8) (l : List (List UInt8)) : List UInt8 := f ++ [40] ++ joinB [44, 32] l ++ [41]
def nestT (l : List (List UInt8)) : List UInt8 := [40] ++ joinB [32] l ++ [41]
/-- An expression's text, of the texts of what is in it. -/
def tellT (k : Int) (v : Int × Int × List UInt8) (t n : List UInt8) (o : Int) (l : List (List UInt8)) : List UInt8 :=
  if k = 1 then lit v.1 v.2.1 v.2.2
  else if k = 2 then (if t = [] then n else t ++ [46] ++ n)
  else if k = 4 then callT sCoalesce l
  else if k = 5 then callT n (if l = [] then [[42]] else l)
  else if opMany o = 2 then nestT [l.getD 0 [], opName o, l.getD 1 []]
  else if o = 19 ∨ o = 20 then callT (opName o) l
  else if o = 17 ∨ o = 18 then nestT [l.getD 0 [], opName o]
  else nestT [opName o, l.getD 0 []]
mutual
/-- An expression's text. -/
def textE : Ex → List UInt8
  | .mk k v t n o args => tellT k v t n o (textsE args)
def textsE : List Ex → List (List UInt8)
  | [] => []
  | x :: r => textE x :: textsE r
end
theorem textsE_map (l : List Ex) : textsE l = l.map textE := by
  induction l with
  | nil => simp [textsE]
  | cons x r ih => simp [textsE, ih]
theorem checksB_all (l : List Ex) : checksB l = l.all checkB := by
  induction l with
  | nil => simp [checksB]
  | cons x r ih => simp [checksB, ih]
theorem sumsBs_any (l : List Ex) : sumsBs l = l.any sumsB := by
  induction l with
  | nil => simp [sumsBs]
  | cons x r ih => simp [sumsBs, ih]
mutual
/-- Are two the same? -/
def sameB : Ex → Ex → Bool
  | .mk k v t n o a, .mk k' v' t' n' o' a' => (k == k' && v == v' && t == t' && n == n' && o == o') && samesB a a'
def samesB : List Ex → List Ex → Bool
  | [], [] => true
  | x :: r, y :: s => sameB x y && samesB r s
  | _, _ => false
end
mutual
theorem same_self : ∀ x : Ex, sameB x x = true
  | .mk k v t n o a => by simp [sameB, sames_self a]
theorem sames_self : ∀ l : List Ex, samesB l l = true
  | [] => by simp [samesB]
  | x :: r => by simp [samesB, same_self x, sames_self r]
end
mutual
theorem same_eq : ∀ x y : Ex, sameB x y = true → x = y
  | .mk k v t n o a, .mk k' v' t' n' o' a', h => by
    simp only [sameB, Bool.and_eq_true, beq_iff_eq] at h
    obtain ⟨⟨⟨⟨⟨rfl, rfl⟩, rfl⟩, rfl⟩, rfl⟩, h⟩ := h
    rw [sames_eq a a' h]
theorem sames_eq : ∀ l m : List Ex, samesB l m = true → l = m
  | [], [], _ => rfl
  | [], _ :: _, h => by simp [samesB] at h
  | _ :: _, [], h => by simp [samesB] at h
  | x :: r, y :: s, h => by
    simp only [samesB, Bool.and_eq_true] at h
    rw [same_eq x y h.1, sames_eq r s h.2]
end
theorem ex_size {x y : Ex} (h : y ∈ x.args) : SizeOf.sizeOf y < SizeOf.sizeOf x := by
  cases x with
  | mk k v t n o args =>
    have := List.sizeOf_lt_of_mem (show y ∈ args from h)
    simp only [Ex.mk.sizeOf_spec]
    omega

/-! As values. -/
/-- An expression's value, its arguments' slice sv. -/
abbrev EV (k : Int) (v : Int × Int × List UInt8) (t n : List UInt8) (o : Int) (sv : Value) : Value := .agg #[.int .i64 k, .int .i64 v.1, .int .i64 v.2.1, S v.2.2, S t, S n, .int .i64 o, sv]
/-- Eight cells from o on in block b. -/
def At8 (W : World) (b o : Nat) (x : Ex) (sv : Value) : Prop :=
  W.cell? ⟨b, o, none⟩ = some (.int .i64 x.k) ∧ W.cell? ⟨b, o + 1, none⟩ = some (.int .i64 x.v.1) ∧ W.cell? ⟨b, o + 2, none⟩ = some (.int .i64 x.v.2.1) ∧ W.cell? ⟨b, o + 3, none⟩ = some (S x.v.2.2) ∧
  W.cell? ⟨b, o + 4, none⟩ = some (S x.t) ∧ W.cell? ⟨b, o + 5, none⟩ = some (S x.n) ∧ W.cell? ⟨b, o + 6, none⟩ = some (.int .i64 x.o) ∧ W.cell? ⟨b, o + 7, none⟩ = some sv
theorem At8.keep {W W' : World} {b o : Nat} {x : Ex} {sv : Value} (h : At8 W b o x sv) (hk : W'.heap[b]? = W.heap[b]?) : At8 W' b o x sv := by
  have c : ∀ o v, W.cell? ⟨b, o, none⟩ = some v → W'.cell? ⟨b, o, none⟩ = some v := fun o v hv => by rw [World.cell?_of_block (w := W) hk]; exact hv
  obtain ⟨h0, h1, h2, h3, h4, h5, h6, h7⟩ := h
  exact ⟨c _ _ h0, c _ _ h1, c _ _ h2, c _ _ h3, c _ _ h4, c _ _ h5, c _ _ h6, c _ _ h7⟩
/-- The slice sv holds these expressions. -/
inductive ReadsL (W : World) : Value → List Ex → Prop where
  | mk (a : Option Addr) (cap : Nat) (l : List Ex) (s : Nat → Value) (h1 : ∀ j x, l[j]? = some x → ∃ b off, a = some ⟨b, off, none⟩ ∧ At8 W b (off + j * 8) x (s j)) (h2 : ∀ j x, l[j]? = some x → ReadsL W (s j) x.args) : ReadsL W (.slice a l.length cap) l
/-- The value v is this expression. -/
def ReadsE (W : World) (x : Ex) (v : Value) : Prop := ∃ sv, v = EV x.k x.v x.t x.n x.o sv ∧ ReadsL W sv x.args
theorem ReadsL.keep {W W' : World} (hk : ∀ b o v, W.cell? ⟨b, o + 7, none⟩ = some v → W'.heap[b]? = W.heap[b]?) {sv : Value} {l : List Ex} (h : ReadsL W sv l) : ReadsL W' sv l := by
  induction h with
  | mk a cap l s h1 _ ih =>
    refine .mk a cap l s (fun j x hx => ?_) ih
    obtain ⟨b, off, e, h8⟩ := h1 j x hx
    exact ⟨b, off, e, h8.keep (hk b _ _ h8.2.2.2.2.2.2.2)⟩
theorem ReadsL.bl {W W' : World} (hb : Bl W W') {sv : Value} {l : List Ex} (h : ReadsL W sv l) : ReadsL W' sv l :=
  h.keep fun b o v hc => hb.block b (by have := World.block_lt_of_cell? _ _ hc; simpa using this)
theorem ReadsE.bl {W W' : World} (hb : Bl W W') {x : Ex} {v : Value} (h : ReadsE W x v) : ReadsE W' x v := by
  obtain ⟨sv, e, h⟩ := h
  exact ⟨sv, e, h.bl hb⟩
/-- A block of two cells may turn. -/
theorem ReadsL.grown {W W' : World} {bs : Nat} {c0 c1 : Value} {t : TypeId} (h2 : W.heap[bs]? = some (.cells #[c0, c1] t (0, 0))) (hg : W.grownBy W' (some bs)) {sv : Value} {l : List Ex} (h : ReadsL W sv l) : ReadsL W' sv l :=
  h.keep fun b o v hc => hg.block b (by have := World.block_lt_of_cell? _ _ hc; simpa using this) (fun e => by
    injection e with e
    subst e
    rw [Lib.cell_of_heap h2] at hc
    simp at hc)
theorem ReadsE.grown {W W' : World} {bs : Nat} {c0 c1 : Value} {t : TypeId} (h2 : W.heap[bs]? = some (.cells #[c0, c1] t (0, 0))) (hg : W.grownBy W' (some bs)) {x : Ex} {v : Value} (h : ReadsE W x v) : ReadsE W' x v := by
  obtain ⟨sv, e, h⟩ := h
  exact ⟨sv, e, h.grown h2 hg⟩
theorem ReadsL.nil (W : World) (a : Option Addr) (cap : Nat) : ReadsL W (.slice a 0 cap) [] := .mk a cap [] (fun _ => .slice none 0 0) (fun j x h => by simp at h) (fun j x h => by simp at h)

end Go.Proofs.YtepkfkfedmbmnaaGreatDoor

namespace Go.Proofs.YtepkfkfedmbmnaaGreatDoor
open Go.RowKit
set_option maxRecDepth 100000

/-- The last token is the end. -/
def TokOK (ts : List Tok) : Prop := ∀ k x, ts[k]? = some x → k + 1 = ts.length → x.k = 4
theorem nextK_of {ts : List Tok} (h : TokOK ts) {k : Nat} {x : Tok} (hx : ts[k]? = some x) (h4 : x.k ≠ 4) : nextK ts.length k = k + 1 ∧ k + 1 < ts.length := by
  have hk := (List.getElem?_eq_some_iff.1 hx).1
  have : k + 1 ≠ ts.length := fun e => h4 (h k x hx e)
  unfold nextK
  rw [if_pos (by omega)]
  omega
theorem isB_k {x : Tok} {s : List UInt8} (h : isB x s = true) : x.k ≠ 4 := by
  unfold isB at h
  intro e
  rw [e] at h
  simp at h
theorem isName1_k {x : Tok} (h : isName1 x = true) : x.k ≠ 4 := by
  unfold isName1 at h
  intro e
  rw [e] at h
  simp at h
theorem takeK_le {ts : List Tok} (hT : TokOK ts) : ∀ {l : List (List UInt8)} {k k' : Nat}, k < ts.length → takeK ts k l = some k' → k + l.length ≤ k' ∧ k' < ts.length
  | [], k, k', hk, h => by injection h with h; subst h; simp; omega
  | s :: r, k, k', hk, h => by
    obtain ⟨x, hx⟩ : ∃ x, ts[k]? = some x := ⟨_, List.getElem?_eq_getElem hk⟩
    rw [takeK_cons hx] at h
    by_cases hb : isB x s = true
    · rw [if_pos hb] at h
      obtain ⟨e, hl⟩ := nextK_of hT hx (isB_k hb)
      rw [e] at h
      have := takeK_le hT hl h
      simp only [List.length_cons]
      omega
    · rw [if_neg hb] at h; cases h
theorem takenK_le {ts : List Tok} (hT : TokOK ts) : ∀ {l : List Int} {k : Nat} {o : Int} {k' : Nat}, k < ts.length → takenK ts k l = some (o, k') → k < k' ∧ k' < ts.length
  | [], k, o, k', _, h => by cases h
  | p :: r, k, o, k', hk, h => by
    unfold takenK at h
    cases ht : takeK ts k [opName p] with
    | some k2 =>
      rw [ht] at h
      injection h with h
      injection h with _ h
      subst h
      have := takeK_le hT hk ht
      simp only [List.length_singleton] at this
      omega
    | none =>
      rw [ht] at h
      exact takenK_le hT hk h
theorem nameK_le {ts : List Tok} (hT : TokOK ts) {k : Nat} {n : List UInt8} {k' : Nat} (h : nameK ts k = some (n, k')) : k < k' ∧ k' < ts.length := by
  unfold nameK at h
  cases hx : ts[k]? with
  | none => rw [hx] at h; cases h
  | some x =>
    rw [hx] at h
    simp only at h
    split at h
    · rename_i hn
      injection h with h
      injection h with _ h
      subst h
      have := nextK_of hT hx (isName1_k hn)
      omega
    · cases h
theorem constR_le {ts : List Tok} (hT : TokOK ts) : ∀ {l : List (List UInt8 × Int)} {k k' : Nat} {i : Int}, k < ts.length → constR ts k l = some (k', i) → k < k' ∧ k' < ts.length
  | [], k, k', i, _, h => by cases h
  | (s, j) :: r, k, k', i, hk, h => by
    unfold constR at h
    cases ht : takeK ts k [s] with
    | some k2 =>
      rw [ht] at h
      injection h with h
      injection h with h _
      subst h
      have := takeK_le hT hk ht
      simp only [List.length_singleton] at this
      omega
    | none =>
      rw [ht] at h
      exact constR_le hT hk h

/-- Where a job begins; its rank. -/
def Job.at : Job → Nat
  | .rd _ k _ => k
  | .lp _ k _ _ => k
  | .args _ k _ _ => k
def Job.rank : Job → Nat
  | .rd n _ _ => 12 - n
  | .lp _ _ _ _ => 1
  | .args _ _ _ _ => 13
def Job.lvl : Job → Prop
  | .rd n _ _ => n ≤ 7
  | .lp n _ _ _ => n ≤ 6 ∧ n ≠ 2 ∧ n ≠ 3
  | .args _ _ _ _ => True
/-- How many steps it may take. -/
def Job.most (ts : List Tok) (j : Job) : Nat := (ts.length - j.at) * 20 + j.rank
def Job.past (j : Job) (k : Nat) : Prop := match j with
  | .rd _ k0 _ => k0 < k
  | .lp _ k0 _ _ => k0 ≤ k
  | .args _ k0 _ _ => k0 < k
/-- What a job ends with. -/
def Ends (ts : List Tok) (j : Job) : Res → Prop
  | .out => False
  | .bad _ => True
  | .good k _ => j.past k ∧ k < ts.length
theorem Ends.bind {ts : List Tok} {i j : Job} {r : Res} {g : Nat → Ex → Res} (h : Ends ts i r) (hg : ∀ k x, r = .good k x → k < ts.length → i.past k → Ends ts j (g k x)) : Ends ts j (r.bind g) := by
  cases r with
  | out => exact h.elim
  | bad e => exact trivial
  | good k x => exact hg k x rfl h.2 h.1
theorem ends_deeper {ts : List Tok} {j : Job} {d : Nat} {r : Res} (h : Ends ts j r) : Ends ts j (deeperR d r) := by
  unfold deeperR
  split
  · exact h
  · exact trivial

theorem ends_rd {ts : List Tok} {n m k d e : Nat} {r : Res} (h : Ends ts (.rd n k d) r) : Ends ts (.rd m k e) r := by
  cases r with
  | out => exact h
  | bad c => exact trivial
  | good k' x => exact h
theorem run_ends {ts : List Tok} (hT : TokOK ts) : ∀ (f : Nat) (j : Job), j.at < ts.length → j.lvl → j.most ts < f → Ends ts j (runR ts f j)
  | 0, j, _, _, h => by omega
  | f + 1, j, hk, hl, h => by
    have ih := run_ends hT f
    simp only [runR]
    cases j with
    | lp n k d x =>
      simp only [Job.at] at hk
      obtain ⟨hl6, hl2, hl3⟩ := hl
      simp only [stepR]
      cases ht : takenK ts k (levelOps n) with
      | none => exact ⟨Nat.le_refl _, hk⟩
      | some p =>
        obtain ⟨o, k'⟩ := p
        have h1 := takenK_le hT hk ht
        simp only [Job.most, Job.at, Job.rank] at h
        refine Ends.bind (ih (.rd (n + 1) k' d) h1.2 (by show n + 1 ≤ 7; omega) (by simp only [Job.most, Job.at, Job.rank]; omega)) ?_
        intro k2 y _ hk2 hlt
        simp only [Job.past] at hlt
        have := ih (.lp n k2 d (opE o [x, y])) hk2 ⟨hl6, hl2, hl3⟩ (by simp only [Job.most, Job.at, Job.rank]; omega)
        revert this
        cases runR ts f (.lp n k2 d (opE o [x, y])) with
        | out => exact id
        | bad e => exact id
        | good k3 z =>
          intro h3
          have h31 : k2 ≤ k3 := h3.1
          exact ⟨by show k ≤ k3; omega, h3.2⟩
    | args nm k d acc =>
      simp only [Job.at] at hk
      simp only [Job.most, Job.at, Job.rank] at h
      simp only [stepR]
      refine Ends.bind (i := .rd 0 k (d + 1)) (ends_deeper (ih (.rd 0 k (d + 1)) hk (by show 0 ≤ 7; omega) (by simp only [Job.most, Job.at, Job.rank]; omega))) ?_
      intro k1 x _ hk1 hlt
      simp only [Job.past] at hlt
      cases hc : (if nm = sCoalesce then takeK ts k1 [[44]] else none) with
      | some k2 =>
        have h2 : k1 < k2 ∧ k2 < ts.length := by
          split at hc
          · have := takeK_le hT hk1 hc
            simp only [List.length_singleton] at this
            omega
          · cases hc
        show Ends ts (.args nm k d acc) (runR ts f (.args nm k2 d (acc ++ [x])))
        have := ih (.args nm k2 d (acc ++ [x])) h2.2 trivial (by simp only [Job.most, Job.at, Job.rank]; omega)
        revert this
        cases runR ts f (.args nm k2 d (acc ++ [x])) with
        | out => exact id
        | bad e => exact id
        | good k3 z =>
          intro h3
          have h31 : k2 < k3 := h3.1
          exact ⟨by show k < k3; omega, h3.2⟩
      | none =>
        simp only
        cases ht : takeK ts k1 [[41]] with
        | none => exact trivial
        | some k2 =>
          have := takeK_le hT hk1 ht
          exact ⟨by show k < k2; omega, this.2⟩
    | rd n k d =>
      simp only [Job.at] at hk
      have hn : n ≤ 7 := hl
      simp only [Job.most, Job.at, Job.rank] at h
      have next : ∀ (m : Nat), n < m → m ≤ 7 → Ends ts (.rd m k d) (runR ts f (.rd m k d)) := fun m h1 h2 => ih (.rd m k d) hk h2 (by simp only [Job.most, Job.at, Job.rank]; omega)
      have later : ∀ (i : Job), k < i.at → i.at < ts.length → i.lvl → i.rank ≤ 13 → Ends ts i (runR ts f i) := fun i h1 h2 h3 h4 => ih i h2 h3 (by simp only [Job.most]; omega)
      have called : ∀ (nm : List UInt8) (k2 : Nat), k < k2 → k2 < ts.length → Ends ts (.rd n k d) (calledR ts (runR ts f) nm k2 d) := by
        intro nm k2 h1 h2
        have hargs : Ends ts (.rd n k d) (runR ts f (.args nm k2 d [])) := by
          have := later (.args nm k2 d []) h1 h2 trivial (Nat.le_refl _)
          revert this
          cases runR ts f (.args nm k2 d []) with
          | out => exact id
          | bad e => exact id
          | good k3 z =>
            intro h3
            have h31 : k2 < k3 := h3.1
            exact ⟨by show k < k3; omega, h3.2⟩
        unfold calledR
        split
        · exact trivial
        · split
          · cases ht : takeK ts k2 [[42], [41]] with
            | none => exact hargs
            | some k3 =>
              have := takeK_le hT h2 ht
              exact ⟨by show k < k3; omega, this.2⟩
          · exact hargs
      simp only [stepR]
      by_cases h2 : n = 2
      · rw [if_pos h2]
        cases ht : takeK ts k [sNot] with
        | none => exact ends_rd (next 3 (by omega) (by omega))
        | some k' =>
          have h1 := takeK_le hT hk ht
          simp only [List.length_singleton] at h1
          refine Ends.bind (i := .rd 2 k' (d + 1)) (ends_deeper (later (.rd 2 k' (d + 1)) (by show k < k'; omega) h1.2 (by show 2 ≤ 7; omega) (by simp [Job.rank]))) ?_
          intro k2 y _ hk2 hlt
          simp only [Job.past] at hlt
          exact ⟨by show k < k2; omega, hk2⟩
      rw [if_neg h2]
      by_cases h7 : n = 7
      · rw [if_pos h7]
        cases ht : takeK ts k [[45]] with
        | some k' =>
          have h1 := takeK_le hT hk ht
          simp only [List.length_singleton] at h1
          refine Ends.bind (i := .rd 7 k' (d + 1)) (ends_deeper (later (.rd 7 k' (d + 1)) (by show k < k'; omega) h1.2 (by show 7 ≤ 7; omega) (by simp [Job.rank]))) ?_
          intro k2 y _ hk2 hlt
          simp only [Job.past] at hlt
          exact ⟨by show k < k2; omega, hk2⟩
        | none =>
          simp only
          unfold aloneR
          obtain ⟨x, hx⟩ : ∃ x, ts[k]? = some x := ⟨_, List.getElem?_eq_getElem hk⟩
          rw [hx]
          simp only
          by_cases hv : x.k = 2
          · rw [if_pos hv]
            have := nextK_of hT hx (by omega)
            exact ⟨by show k < nextK ts.length k; omega, by omega⟩
          rw [if_neg hv]
          cases hc : constR ts k [(sFalse, 0), (sTrue, 1), (sNull, 2)] with
          | some p =>
            obtain ⟨k', i⟩ := p
            exact constR_le hT hk hc
          | none =>
            simp only
            cases hp : takeK ts k [[40]] with
            | some k' =>
              have h1 := takeK_le hT hk hp
              simp only [List.length_singleton] at h1
              refine Ends.bind (i := .rd 0 k' (d + 1)) (ends_deeper (later (.rd 0 k' (d + 1)) (by show k < k'; omega) h1.2 (by show 0 ≤ 7; omega) (by simp [Job.rank]))) ?_
              intro k2 y _ hk2 hlt
              simp only [Job.past] at hlt
              cases ht2 : takeK ts k2 [[41]] with
              | none => exact trivial
              | some k3 =>
                have := takeK_le hT hk2 ht2
                exact ⟨by show k < k3; omega, this.2⟩
            | none =>
              simp only
              cases hm : nameK ts k with
              | none => exact trivial
              | some p =>
                obtain ⟨nm, k1⟩ := p
                have h1 := nameK_le hT hm
                simp only
                cases hq : takeK ts k1 [[40]] with
                | some k2 =>
                  have := takeK_le hT h1.2 hq
                  exact called nm k2 (by omega) this.2
                | none =>
                  simp only
                  cases hd : takeK ts k1 [[46]] with
                  | none => exact h1
                  | some k2 =>
                    have h3 := takeK_le hT h1.2 hd
                    simp only
                    cases hm2 : nameK ts k2 with
                    | none => exact trivial
                    | some p2 =>
                      obtain ⟨c, k3⟩ := p2
                      have h4 := nameK_le hT hm2
                      exact ⟨by show k < k3; omega, h4.2⟩
      rw [if_neg h7]
      by_cases h3 : n = 3
      · rw [if_pos h3]
        unfold cmpR
        refine Ends.bind (next 4 (by omega) (by omega)) ?_
        intro k1 x _ hk1 hlt
        simp only [Job.past] at hlt
        cases ht : takenK ts k1 (levelOps 3) with
        | some p =>
          obtain ⟨o, k2⟩ := p
          have h1 := takenK_le hT hk1 ht
          refine Ends.bind (i := .rd 4 k2 d) (later (.rd 4 k2 d) (by show k < k2; omega) h1.2 (by show 4 ≤ 7; omega) (by simp [Job.rank])) ?_
          intro k3 y _ hk3 hlt3
          simp only [Job.past] at hlt3
          exact ⟨by show k < k3; omega, hk3⟩
        | none =>
          simp only
          cases h1 : takeK ts k1 [sIs, sNull] with
          | some k2 =>
            have := takeK_le hT hk1 h1
            exact ⟨by show k < k2; omega, this.2⟩
          | none =>
            simp only
            cases h2 : takeK ts k1 [sIs, sNot, sNull] with
            | some k2 =>
              have := takeK_le hT hk1 h2
              exact ⟨by show k < k2; omega, this.2⟩
            | none => exact ⟨by show k < k1; omega, hk1⟩
      rw [if_neg h3]
      refine Ends.bind (next (n + 1) (by omega) (by omega)) ?_
      intro k1 x _ hk1 hlt
      simp only [Job.past] at hlt
      have := later (.lp n k1 d x) hlt hk1 ⟨by omega, h2, h3⟩ (by simp [Job.rank])
      revert this
      cases runR ts f (.lp n k1 d x) with
      | out => exact id
      | bad e => exact id
      | good k3 z =>
        intro h3
        have h31 : k1 ≤ k3 := h3.1
        exact ⟨by show k < k3; omega, h3.2⟩

end Go.Proofs.YtepkfkfedmbmnaaGreatDoor

namespace Go.Proofs.YtepkfkfedmbmnaaGreatDoor
open Go.RowKit
set_option maxRecDepth 100000

abbrev Bare : Type := Int × List UInt8 × (Int × Int × List UInt8)
/-- The tokens of a text, but for their places. -/
def bt (s : List UInt8) : Option (List Bare) := (toks parseO 0 s).map (List.map Tok.bare)
theorem bt_of {N : Nat} {s : List UInt8} {l : List Tok} (h : toks parseO N s = some l) : bt s = some (l.map Tok.bare) := by
  obtain ⟨l', h1, h2⟩ := toks_pos (parse := parseO) N 0 s.length s (Nat.le_refl _) l h
  unfold bt
  rw [h1, ← h2]
  rfl
theorem bt_some {s : List UInt8} {b : List Bare} (h : bt s = some b) (N : Nat) : ∃ l, toks parseO N s = some l ∧ l.map Tok.bare = b := by
  unfold bt at h
  obtain ⟨l, h1, h2⟩ := Option.map_eq_some_iff.1 h
  obtain ⟨l', h3, h4⟩ := toks_pos (parse := parseO) 0 N s.length s (Nat.le_refl _) l h1
  exact ⟨l', h3, h4.trans h2⟩
theorem bt_nil : bt [] = some [] := by unfold bt; rw [toks_nil]; rfl
theorem bt_blank (r : List UInt8) : bt (32 :: r) = bt r := by
  unfold bt
  rw [toks_skip 0 (32 :: r) r (by rw [skip_f, if_pos (by decide)])]
theorem bt_tok {t r : List UInt8} {k : Int} {v : Int × Int × List UInt8} (hb : Stops blankB (t ++ r)) (h2 : ¬ ((t ++ r).head? = some 45 ∧ (t ++ r)[1]? = some 45)) (hc : cut1 (t ++ r) = some (k, t.length)) (hv : valOf parseO k t = some v) :
    bt (t ++ r) = (bt r).map ((k, t, v) :: ·) := by
  have hs := skipM_stays hb h2
  have hl := cut1_le hc
  have hne : ¬ (t ++ r = []) := by intro e; have := congrArg List.length e; rw [List.length_append, List.length_nil] at this; omega
  have ho : one1 parseO (t ++ r) = some (k, t.length, v) := by
    unfold one1
    rw [hc]
    simp only [Option.bind_some, List.take_left, hv, Option.map_some]
  unfold bt
  rw [toks_eq, hs, if_neg hne, ho]
  simp only [Option.bind_some, List.drop_left, List.take_left]
  cases toks parseO 0 r with
  | none => rfl
  | some l => simp [Tok.bare]

/-- A word. -/
def Wd (s : List UInt8) : Prop := ∃ c r, s = c :: r ∧ letterB c = true ∧ (∀ d ∈ r, wordB d = true) ∧ s.length ≤ 30
/-- What a word or a number may end ahead of. -/
def EndW (r : List UInt8) : Prop := Stops wordB r ∧ r.head? ≠ some 39
theorem EndW.nil : EndW [] := ⟨fun c h => by simp at h, by simp⟩
theorem EndW.of {c : UInt8} (r : List UInt8) (h : wordB c = false) (h' : c ≠ 39) : EndW (c :: r) := ⟨fun d hd => by simp at hd; subst hd; exact h, by simpa using h'⟩
theorem letter_facts {c : UInt8} (h : letterB c = true) : blankB c = false ∧ c ≠ 45 ∧ c ≠ 39 := by
  have := bytes_all (q := fun c => !(letterB c) || (!(blankB c) && c != 45 && c != 39)) (by decide +kernel) c
  simp only [h] at this
  simpa [and_assoc] using this
theorem bt_word {s r : List UInt8} (hw : Wd s) (he : EndW r) : bt (s ++ r) = (bt r).map ((1, s, (0, 0, [])) :: ·) := by
  obtain ⟨c, q, rfl, hl, hq, h30⟩ := hw
  obtain ⟨f1, f2, f3⟩ := letter_facts hl
  refine bt_tok ?_ ?_ ?_ rfl
  · intro d hd; simp at hd; subst hd; exact f1
  · rintro ⟨h, _⟩; simp at h; exact f2 h
  · have hr := runB_of (p := wordB) (t := q) (y := r) hq he.1
    have hx : ¬ (c = 120 ∧ (q ++ r).head? = some 39) := by
      rintro ⟨_, h⟩
      cases q with
      | nil => exact he.2 (by simpa using h)
      | cons d q =>
        simp at h
        have := hq d (by simp)
        subst h
        exact absurd this (by decide)
    show cut1 (c :: (q ++ r)) = _
    rw [cut1_cons, if_pos ⟨hl, hx⟩, hr, if_pos (by simpa using h30)]
    simp

theorem bt_sign {t r : List UInt8} {c : UInt8} {q : List UInt8} (e : t = c :: q) (hc : letterB c = false ∧ c ≠ 39 ∧ c ≠ 120 ∧ digitB c = false ∧ blankB c = false) (h2 : ¬ ((t ++ r).head? = some 45 ∧ (t ++ r)[1]? = some 45)) (hs : slen c (q ++ r).head? = t.length) :
    bt (t ++ r) = (bt r).map ((3, t, (0, 0, [])) :: ·) := by
  obtain ⟨f1, f2, f3, f4, f5⟩ := hc
  refine bt_tok ?_ h2 ?_ rfl
  · intro d hd; rw [e] at hd; simp at hd; subst hd; exact f5
  · have hl : t.length = q.length + 1 := by rw [e]; simp
    rw [e] at hs ⊢
    show cut1 (c :: (q ++ r)) = _
    rw [cut1_cons, if_neg (by simp [f1]), if_neg f2, if_neg f3, if_neg (by simp [f4]), hs, if_neg (by simp)]
/-- A sign of one letter that begins no longer one. -/
theorem bt_one (c : UInt8) (hc : c = 40 ∨ c = 41 ∨ c = 44 ∨ c = 46 ∨ c = 42) (r : List UInt8) : bt (c :: r) = (bt r).map ((3, [c], (0, 0, [])) :: ·) := by
  refine bt_sign (t := [c]) (r := r) (q := []) rfl ?_ ?_ ?_
  · rcases hc with rfl | rfl | rfl | rfl | rfl <;> decide
  · rcases hc with rfl | rfl | rfl | rfl | rfl <;> simp
  · rcases hc with rfl | rfl | rfl | rfl | rfl <;> simp [slen]
/-- An operator between two. -/
def opTok (o : Int) : Bare := (if 13 ≤ o then 1 else 3, opName o, (0, 0, []))
theorem bt_op (o : Int) (h : 1 ≤ o ∧ o ≤ 14) (r : List UInt8) : bt (opName o ++ 32 :: r) = (bt r).map (opTok o :: ·) := by
  rw [← bt_blank r]
  have : o = 1 ∨ o = 2 ∨ o = 3 ∨ o = 4 ∨ o = 5 ∨ o = 6 ∨ o = 7 ∨ o = 8 ∨ o = 9 ∨ o = 10 ∨ o = 11 ∨ o = 12 ∨ o = 13 ∨ o = 14 := by omega
  have hw : ∀ s : List UInt8, Wd s → bt (s ++ 32 :: r) = (bt (32 :: r)).map ((1, s, (0, 0, [])) :: ·) := fun s hs => bt_word hs (EndW.of r (by decide) (by decide))
  rcases this with rfl | rfl | rfl | rfl | rfl | rfl | rfl | rfl | rfl | rfl | rfl | rfl | rfl | rfl
  case inr.inr.inr.inr.inr.inr.inr.inr.inr.inr.inr.inr.inl => exact hw _ ⟨97, [110, 100], rfl, by decide, by decide, by decide⟩
  case inr.inr.inr.inr.inr.inr.inr.inr.inr.inr.inr.inr.inr => exact hw _ ⟨111, [114], rfl, by decide, by decide, by decide⟩
  all_goals exact bt_sign (r := 32 :: r) rfl (by decide) (by simp [opName]) (by simp [slen, opName])
/-- An operator ahead of one. -/
theorem bt_neg (r : List UInt8) : bt (45 :: 32 :: r) = (bt r).map ((3, [45], (0, 0, [])) :: ·) := by
  rw [← bt_blank r]
  exact bt_sign (t := [45]) (r := 32 :: r) rfl (by decide) (by simp) (by simp [slen])

/-- What a name is. -/
theorem name_word {s : List UInt8} (h : nameB s = true) : Wd s ∧ kwB s = false := by
  unfold nameB at h
  split at h
  · cases h
  · split at h
    · rename_i x hx
      simp only [Bool.and_eq_true, beq_iff_eq] at h
      obtain ⟨hn, hs⟩ := h
      unfold isName1 at hn
      simp only [Bool.and_eq_true, beq_iff_eq, Bool.not_eq_true'] at hn
      rw [hs] at hn
      refine ⟨?_, hn.2⟩
      unfold toksO at hx
      rw [toks_eq] at hx
      split at hx
      · cases hx
      · obtain ⟨y, h1, h2⟩ := Option.bind_eq_some_iff.1 hx
        obtain ⟨l, _, h3⟩ := Option.map_eq_some_iff.1 h2
        injection h3 with h3 _
        have hk : y.1 = 1 := by rw [← hn.1, ← h3]
        have ht : (skipM false s).take y.2.1 = s := by
          have e : x.t = (skipM false s).take y.2.1 := by rw [← h3]
          exact e.symm.trans hs
        have hl := one1_le h1
        have hle := skipM_le false s
        have hlen : (skipM false s).length = s.length := by
          have := congrArg List.length ht
          simp at this
          omega
        have hss : skipM false s = s := by
          have := skipM_suffix false s
          rw [hlen, Nat.sub_self, List.drop_zero] at this
          exact this
        rw [hss] at h1 ht hl
        have hn2 : y.2.1 = s.length := by
          have := congrArg List.length ht
          simp at this
          omega
        have hc : cut1 s = some (1, s.length) := by
          unfold one1 at h1
          obtain ⟨z, hz, hz2⟩ := Option.bind_eq_some_iff.1 h1
          obtain ⟨v, _, hv⟩ := Option.map_eq_some_iff.1 hz2
          rw [hz]
          rw [← hv] at hk hn2
          simp only at hk hn2
          rw [← hk, ← hn2]
        cases s with
        | nil => simp [cut1] at hc
        | cons c r =>
          rw [cut1_cons] at hc
          split at hc
          · rename_i hlt
            split at hc
            · rename_i h30
              injection hc with hc
              injection hc with _ hc
              simp only [List.length_cons, Nat.add_right_cancel_iff] at hc
              refine ⟨c, r, rfl, hlt.1, ?_, by simp; omega⟩
              intro d hd
              exact runB_take wordB r d (by rw [hc, List.take_length]; exact hd)
            · cases hc
          · split at hc
            · obtain ⟨_, _, e⟩ := Option.map_eq_some_iff.1 hc
              simp at e
            · split at hc
              · obtain ⟨_, _, e⟩ := Option.map_eq_some_iff.1 hc
                simp at e
              · split at hc
                · split at hc
                  · cases hc
                  · simp at hc
                · split at hc
                  · cases hc
                  · simp at hc
    · cases h

theorem qlen_dbl (l : List UInt8) {r : List UInt8} (hr : r.head? ≠ some 39) : qlen (dbl l ++ 39 :: r) = some ((dbl l).length + 1) := by
  induction l with
  | nil => simp [dbl, qlen_end hr]
  | cons c l ih =>
    unfold dbl
    split
    · simp only [List.cons_append, qlen_pair, ih]
      simp
    · rename_i hc
      simp only [List.cons_append]
      rw [qlen_cons_ne hc, ih]
      simp
theorem dig_is {c : UInt8} (h : isDig c) : digitB c = true := by
  unfold isDig at h
  unfold digitB
  simp only [Bool.and_eq_true, decide_eq_true_eq]
  exact ⟨by rw [UInt8.le_iff_toNat_le]; exact h.1, by rw [UInt8.le_iff_toNat_le]; exact h.2⟩
theorem digit_facts {c : UInt8} (h : digitB c = true) : blankB c = false ∧ letterB c = false ∧ c ≠ 39 ∧ c ≠ 120 ∧ c ≠ 45 := by
  have := bytes_all (q := fun c => !(digitB c) || (!(blankB c) && !(letterB c) && c != 39 && c != 120 && c != 45)) (by decide +kernel) c
  simp only [h] at this
  simpa [and_assoc] using this
theorem bt_digits {s r : List UInt8} (hs : s ≠ []) (hd : ∀ c ∈ s, digitB c = true) (he : EndW r) {v : Int × Int × List UInt8} (hv : parseO s = some v) : bt (s ++ r) = (bt r).map ((2, s, v) :: ·) := by
  cases s with
  | nil => exact absurd rfl hs
  | cons c q =>
    obtain ⟨f1, f2, f3, f4, f5⟩ := digit_facts (hd c (by simp))
    have hst : Stops digitB r := fun d h => by
      have := he.1 d h
      unfold wordB at this
      simp at this
      exact this.2
    have hr := runB_of (p := digitB) (t := q) (y := r) (fun d h => hd d (by simp [h])) hst
    refine bt_tok ?_ ?_ ?_ (by unfold valOf; rw [if_pos rfl]; exact hv)
    · intro d h; simp at h; subst h; exact f1
    · rintro ⟨h, _⟩; simp at h; exact f5 h
    · show cut1 (c :: (q ++ r)) = _
      rw [cut1_cons, if_neg (by simp [f2]), if_neg f3, if_neg f4, if_pos (by rw [hd c (by simp)]), hr, List.drop_left, if_neg]
      · simp
      · cases hh : r.head? with
        | none => simp
        | some d =>
          have := he.1 d hh
          unfold wordB at this
          simp at this
          simp [this.1]

/-- A value's token. -/
def valTok (v : Int × Int × List UInt8) : Bare := if v.1 = 0 ∨ v.1 = 1 then (1, lit v.1 v.2.1 v.2.2, (0, 0, [])) else (2, lit v.1 v.2.1 v.2.2, v)
theorem bt_val {k n : Int} {l : List UInt8} (h : chk k n l = 0) (hn : I64 n) (h2 : k = 2 → 0 ≤ n) {r : List UInt8} (he : EndW r) : bt (lit k n l ++ r) = (bt r).map (valTok (k, n, l) :: ·) := by
  have hp : parseO (lit k n l) = some (k, n, l) := by unfold parseO; rw [parse_lit h hn]; rfl
  obtain ⟨hl, hc⟩ := chk_ways h
  rcases hc with ⟨rfl, rfl, rfl⟩ | ⟨rfl, rfl, rfl⟩ | ⟨rfl, rfl, rfl⟩ | ⟨rfl, rfl⟩ | ⟨rfl, rfl⟩ | ⟨rfl, rfl⟩
  · exact bt_word ⟨110, [117, 108, 108], rfl, by decide, by decide, by decide⟩ he
  · exact bt_word ⟨102, [97, 108, 115, 101], rfl, by decide, by decide, by decide⟩ he
  · exact bt_word ⟨116, [114, 117, 101], rfl, by decide, by decide, by decide⟩ he
  · have e : lit 2 n [] = Lib.decDigits n.toNat := by
      have h0 := h2 rfl
      unfold lit
      rw [if_neg (by decide), if_neg (by decide), if_pos rfl, Lib.itoa, if_neg (by omega)]
    have ev : valTok (2, n, []) = (2, lit 2 n [], (2, n, [])) := by unfold valTok; rw [if_neg (by simp)]
    rw [ev, e]
    rw [e] at hp
    exact bt_digits (dec_ne _) (fun c hc => dig_is (dec_dig _ c hc)) he hp
  · have ev : valTok (3, 0, l) = (2, lit 3 0 l, (3, 0, l)) := by unfold valTok; rw [if_neg (by simp)]
    have e : lit 3 0 l = 39 :: (dbl l ++ [39]) := by simp [lit, litText]
    rw [ev]
    refine bt_tok ?_ ?_ ?_ (by unfold valOf; rw [if_pos rfl]; exact hp)
    · rw [e]; intro d hd; simp at hd; subst hd; decide
    · rw [e]; rintro ⟨h, _⟩; simp at h
    · rw [e]
      show cut1 (39 :: (dbl l ++ [39] ++ r)) = _
      rw [cut1_cons, if_neg (fun h => absurd h.1 (by decide)), if_pos rfl, List.append_assoc]
      rw [show [39] ++ r = 39 :: r from rfl, qlen_dbl l he.2]
      simp
  · have ev : valTok (4, 0, l) = (2, lit 4 0 l, (4, 0, l)) := by unfold valTok; rw [if_neg (by simp)]
    have e : lit 4 0 l = 120 :: (39 :: (hexOf l ++ [39])) := by simp [lit, litBlob]
    have hx := hexOf_all l
    have hd := dbl_noq fun c hc => hex_noq (hx.2 c hc)
    rw [ev]
    refine bt_tok ?_ ?_ ?_ (by unfold valOf; rw [if_pos rfl]; exact hp)
    · rw [e]; intro d hd; simp at hd; subst hd; decide
    · rw [e]; rintro ⟨h, _⟩; simp at h
    · rw [e]
      show cut1 (120 :: (39 :: (hexOf l ++ [39] ++ r))) = _
      rw [cut1_cons, if_neg (by simp), if_neg (by decide), if_pos rfl, List.append_assoc]
      rw [show [39] ++ r = 39 :: r from rfl, List.drop_one, List.tail_cons]
      have := qlen_dbl (hexOf l) he.2
      rw [hd] at this
      rw [this]
      simp

end Go.Proofs.YtepkfkfedmbmnaaGreatDoor

namespace Go.Proofs.YtepkfkfedmbmnaaGreatDoor
open Go.RowKit
set_option maxRecDepth 100000

def sg (c : UInt8) : Bare := (3, [c], (0, 0, []))
def wd (s : List UInt8) : Bare := (1, s, (0, 0, []))
def joinTk : List (List Bare) → List Bare
  | [] => []
  | [x] => x
  | x :: r => x ++ sg 44 :: joinTk r
def callTk (f : List UInt8) (l : List Bare) : List Bare := wd f :: sg 40 :: (l ++ [sg 41])
/-- What stands behind an expression that is asked whether it is null. -/
def nullTk (o : Int) : List Bare := if o = 17 then [wd sIs, wd sNull] else [wd sIs, wd sNot, wd sNull]
def preTk (o : Int) : Bare := if o = 15 then sg 45 else wd sNot
def tellTk (k : Int) (v : Int × Int × List UInt8) (t n : List UInt8) (o : Int) (l : List (List Bare)) : List Bare :=
  if k = 1 then [valTok v]
  else if k = 2 then (if t = [] then [wd n] else [wd t, sg 46, wd n])
  else if k = 4 then callTk sCoalesce (joinTk l)
  else if k = 5 then callTk n (if l = [] then [sg 42] else joinTk l)
  else if opMany o = 2 then sg 40 :: (l.getD 0 [] ++ opTok o :: (l.getD 1 [] ++ [sg 41]))
  else if o = 19 ∨ o = 20 then callTk (opName o) (joinTk l)
  else if o = 17 ∨ o = 18 then sg 40 :: (l.getD 0 [] ++ (nullTk o ++ [sg 41]))
  else sg 40 :: preTk o :: (l.getD 0 [] ++ [sg 41])
mutual
/-- An expression's tokens. -/
def tkE : Ex → List Bare
  | .mk k v t n o args => tellTk k v t n o (tksE args)
def tksE : List Ex → List (List Bare)
  | [] => []
  | x :: r => tkE x :: tksE r
end
theorem tksE_map (l : List Ex) : tksE l = l.map tkE := by
  induction l with
  | nil => simp [tksE]
  | cons x r ih => simp [tksE, ih]

/-- A text that is read as these tokens, whatever is behind it. -/
def Lx (s : List UInt8) (b : List Bare) : Prop := ∀ r, EndW r → bt (s ++ r) = (bt r).map (b ++ ·)
theorem omap (o : Option (List Bare)) (a b : List Bare) : (o.map (b ++ ·)).map (a ++ ·) = o.map ((a ++ b) ++ ·) := by
  cases o <;> simp
theorem ocons (o : Option (List Bare)) (a : Bare) (b : List Bare) : (o.map (b ++ ·)).map (a :: ·) = o.map ((a :: b) ++ ·) := by
  cases o <;> simp
theorem oone (o : Option (List Bare)) (a : Bare) : o.map (a :: ·) = o.map ([a] ++ ·) := by
  cases o <;> simp
theorem bt_join : ∀ (l : List Ex), (∀ y ∈ l, Lx (textE y) (tkE y)) → l ≠ [] → Lx (joinB [44, 32] (l.map textE)) (joinTk (l.map tkE))
  | [], _, h => absurd rfl h
  | [x], h, _ => h x (by simp)
  | x :: y :: l, h, _ => by
    intro r hr
    have ih := bt_join (y :: l) (fun z hz => h z (by simp [hz])) (by simp) r hr
    have e : joinB [44, 32] ((x :: y :: l).map textE) ++ r = textE x ++ (44 :: 32 :: (joinB [44, 32] ((y :: l).map textE) ++ r)) := by
      simp [joinB]
    have e2 : joinTk ((x :: y :: l).map tkE) = tkE x ++ (sg 44 :: joinTk ((y :: l).map tkE)) := by simp [joinTk]
    rw [e, e2, h x (by simp) _ (EndW.of _ (by decide) (by decide)), bt_one 44 (by simp), bt_blank, ih]
    rw [show ((3, [44], (0, 0, [])) : Bare) = sg 44 from rfl, ocons, omap]
theorem bt_call {f : List UInt8} (hf : Wd f) {s : List UInt8} {b : List Bare} (h : Lx s b) (r : List UInt8) : bt (f ++ [40] ++ s ++ [41] ++ r) = (bt r).map (callTk f b ++ ·) := by
  have e : f ++ [40] ++ s ++ [41] ++ r = f ++ (40 :: (s ++ (41 :: r))) := by simp
  rw [e, bt_word hf (EndW.of _ (by decide) (by decide)), bt_one 40 (by simp), h _ (EndW.of _ (by decide) (by decide)), bt_one 41 (by simp)]
  rw [oone (bt r), omap, ocons, ocons]
  rfl
theorem sum_word {n : List UInt8} (h : sumNames.contains n = true) : Wd n := by
  have : n = sCount ∨ n = sSum ∨ n = sMin ∨ n = sMax := by simpa [sumNames] using h
  rcases this with rfl | rfl | rfl | rfl
  · exact ⟨99, [111, 117, 110, 116], rfl, by decide, by decide, by decide⟩
  · exact ⟨115, [117, 109], rfl, by decide, by decide, by decide⟩
  · exact ⟨109, [105, 110], rfl, by decide, by decide, by decide⟩
  · exact ⟨109, [97, 120], rfl, by decide, by decide, by decide⟩

/-- All numbers in it fit. -/
inductive Fits : Ex → Prop where
  | mk (k : Int) (v : Int × Int × List UInt8) (t n : List UInt8) (o : Int) (args : List Ex) (h : I64 v.2.1) (ha : ∀ y, y ∈ args → Fits y) : Fits (.mk k v t n o args)

theorem check_parts {x : Ex} (h : checkB x = true) : rightB x = true ∧ ∀ y ∈ x.args, checkB y = true := by
  cases x with
  | mk k v t n o args =>
    simp only [checkB, Bool.and_eq_true, checksB_all, List.all_eq_true] at h
    exact h
theorem list_one {α : Type} {l : List α} (h : l.length = 1) : ∃ a, l = [a] := by
  match l, h with
  | [a], _ => exact ⟨a, rfl⟩
theorem list_two {α : Type} {l : List α} (h : l.length = 2) : ∃ a b, l = [a, b] := by
  match l, h with
  | [a, b], _ => exact ⟨a, b, rfl⟩

theorem text_lx : ∀ (m : Nat) (x : Ex), SizeOf.sizeOf x ≤ m → checkB x = true → Fits x → Lx (textE x) (tkE x)
  | 0, x, hm, _, _ => by cases x; simp at hm
  | m + 1, x, hm, hc, hf => by
    obtain ⟨hr, hca⟩ := check_parts hc
    have ih : ∀ y ∈ x.args, Lx (textE y) (tkE y) := fun y hy => text_lx m y (by have := ex_size hy; omega) (hca y hy) (by
      cases hf with
      | mk _ _ _ _ _ _ _ ha => exact ha y hy)
    cases hf with
    | mk k v t n o args hi _ =>
    simp only [Ex.args] at ih
    simp only [textE, tkE, textsE_map, tksE_map]
    replace hr : rightF k v t n o args = true := hr
    unfold rightF at hr
    intro r hend
    unfold tellT tellTk
    by_cases h1 : k = 1
    · rw [if_pos h1] at hr ⊢
      rw [if_pos h1]
      simp only [Bool.and_eq_true, beq_iff_eq, Bool.or_eq_true, bne_iff_ne, decide_eq_true_eq] at hr
      rw [bt_val hr.1.2 hi (fun e => by rcases hr.2 with h | h; exact absurd e h; exact h) hend, oone]
    rw [if_neg h1] at hr ⊢
    rw [if_neg h1]
    by_cases h2 : k = 2
    · rw [if_pos h2] at hr ⊢
      rw [if_pos h2]
      simp only [Bool.and_eq_true, beq_iff_eq, Bool.or_eq_true] at hr
      have hn := (name_word hr.1.2).1
      by_cases ht : t = []
      · rw [if_pos ht, if_pos ht, bt_word hn hend, oone]
        rfl
      · have htw := (name_word (hr.2.resolve_left ht)).1
        rw [if_neg ht, if_neg ht]
        have e : t ++ [46] ++ n ++ r = t ++ (46 :: (n ++ r)) := by simp
        rw [e, bt_word htw (EndW.of _ (by decide) (by decide)), bt_one 46 (by simp), bt_word hn hend]
        generalize bt r = z
        cases z <;> simp [sg, wd]
    rw [if_neg h2] at hr ⊢
    rw [if_neg h2]
    by_cases h3 : k = 3
    · rw [if_pos h3] at hr
      simp only [Bool.and_eq_true, beq_iff_eq, decide_eq_true_eq] at hr
      obtain ⟨⟨_, ho⟩, hlen⟩ := hr
      have h4 : ¬ k = 4 := by omega
      have h5 : ¬ k = 5 := by omega
      rw [if_neg h4, if_neg h4, if_neg h5, if_neg h5]
      by_cases hm2 : opMany o = 2
      · rw [if_pos hm2, if_pos hm2]
        have ho2 : 1 ≤ o ∧ o ≤ 14 := by unfold opMany at hm2; split at hm2; assumption; split at hm2 <;> omega
        obtain ⟨a, b, rfl⟩ := list_two (hlen.trans hm2)
        have e : nestT [(List.map textE [a, b]).getD 0 [], opName o, (List.map textE [a, b]).getD 1 []] ++ r = 40 :: (textE a ++ (32 :: (opName o ++ 32 :: (textE b ++ (41 :: r))))) := by
          simp [nestT, joinB]
        rw [e, bt_one 40 (by simp), ih a (by simp) _ (EndW.of _ (by decide) (by decide)), bt_blank, bt_op o ho2, ih b (by simp) _ (EndW.of _ (by decide) (by decide)), bt_one 41 (by simp)]
        generalize bt r = z
        cases z <;> simp [sg]
      · rw [if_neg hm2, if_neg hm2]
        have ho2 : 15 ≤ o ∧ o ≤ 20 := by
          unfold opMany at hm2; split at hm2
          · exact absurd rfl hm2
          · omega
        have hm1 : opMany o = 1 := by unfold opMany; rw [if_neg (by omega), if_pos (by omega)]
        obtain ⟨a, rfl⟩ := list_one (hlen.trans hm1)
        by_cases h19 : o = 19 ∨ o = 20
        · rw [if_pos h19, if_pos h19]
          have hw : Wd (opName o) := by
            rcases h19 with rfl | rfl
            · exact ⟨108, [101, 110, 103, 116, 104], rfl, by decide, by decide, by decide⟩
            · exact ⟨97, [98, 115], rfl, by decide, by decide, by decide⟩
          exact bt_call hw (bt_join [a] ih (by simp)) r
        · rw [if_neg h19, if_neg h19]
          by_cases h17 : o = 17 ∨ o = 18
          · rw [if_pos h17, if_pos h17]
            have w1 : Wd sIs := ⟨105, [115], rfl, by decide, by decide, by decide⟩
            have w2 : Wd sNull := ⟨110, [117, 108, 108], rfl, by decide, by decide, by decide⟩
            have w3 : Wd sNot := ⟨110, [111, 116], rfl, by decide, by decide, by decide⟩
            rcases h17 with rfl | rfl
            · have e : nestT [(List.map textE [a]).getD 0 [], opName 17] ++ r = 40 :: (textE a ++ (32 :: (sIs ++ (32 :: (sNull ++ (41 :: r)))))) := by
                simp [nestT, joinB, opName, sIs, sNull]
              rw [e, bt_one 40 (by simp), ih a (by simp) _ (EndW.of _ (by decide) (by decide)), bt_blank, bt_word w1 (EndW.of _ (by decide) (by decide)), bt_blank, bt_word w2 (EndW.of _ (by decide) (by decide)), bt_one 41 (by simp)]
              generalize bt r = z
              cases z <;> simp [sg, wd, nullTk]
            · have e : nestT [(List.map textE [a]).getD 0 [], opName 18] ++ r = 40 :: (textE a ++ (32 :: (sIs ++ (32 :: (sNot ++ (32 :: (sNull ++ (41 :: r)))))))) := by
                simp [nestT, joinB, opName, sIs, sNull, sNot]
              rw [e, bt_one 40 (by simp), ih a (by simp) _ (EndW.of _ (by decide) (by decide)), bt_blank, bt_word w1 (EndW.of _ (by decide) (by decide)), bt_blank, bt_word w3 (EndW.of _ (by decide) (by decide)), bt_blank, bt_word w2 (EndW.of _ (by decide) (by decide)), bt_one 41 (by simp)]
              generalize bt r = z
              cases z <;> simp [sg, wd, nullTk]
          · rw [if_neg h17, if_neg h17]
            have h15 : o = 15 ∨ o = 16 := by omega
            have w3 : Wd sNot := ⟨110, [111, 116], rfl, by decide, by decide, by decide⟩
            rcases h15 with rfl | rfl
            · have e : nestT [opName 15, (List.map textE [a]).getD 0 []] ++ r = 40 :: (45 :: 32 :: (textE a ++ (41 :: r))) := by
                simp [nestT, joinB, opName]
              rw [e, bt_one 40 (by simp), bt_neg, ih a (by simp) _ (EndW.of _ (by decide) (by decide)), bt_one 41 (by simp)]
              generalize bt r = z
              cases z <;> simp [sg, preTk]
            · have e : nestT [opName 16, (List.map textE [a]).getD 0 []] ++ r = 40 :: (sNot ++ (32 :: (textE a ++ (41 :: r)))) := by
                simp [nestT, joinB, opName, sNot]
              rw [e, bt_one 40 (by simp), bt_word w3 (EndW.of _ (by decide) (by decide)), bt_blank, ih a (by simp) _ (EndW.of _ (by decide) (by decide)), bt_one 41 (by simp)]
              generalize bt r = z
              cases z <;> simp [sg, wd, preTk]
    rw [if_neg h3] at hr
    by_cases h4 : k = 4
    · rw [if_pos h4] at hr ⊢
      rw [if_pos h4]
      have hne : args ≠ [] := by
        simp only [Bool.and_eq_true, Bool.not_eq_true', List.isEmpty_eq_false_iff] at hr
        exact hr.2
      have hw : Wd sCoalesce := ⟨99, [111, 97, 108, 101, 115, 99, 101], rfl, by decide, by decide, by decide⟩
      exact bt_call hw (bt_join args ih hne) r
    rw [if_neg h4] at hr ⊢
    rw [if_neg h4]
    by_cases h5 : k = 5
    · rw [if_pos h5] at hr ⊢
      rw [if_pos h5]
      simp only [Bool.and_eq_true] at hr
      have hw := sum_word hr.1.2
      cases args with
      | nil =>
        refine bt_call hw (s := joinB [44, 32] [[42]]) (b := [sg 42]) ?_ r
        intro r2 _
        show bt (42 :: r2) = _
        rw [bt_one 42 (by simp), oone]
        rfl
      | cons a l => exact bt_call hw (bt_join (a :: l) ih (by simp)) r
    · rw [if_neg h5] at hr
      cases hr

end Go.Proofs.YtepkfkfedmbmnaaGreatDoor

namespace Go.Proofs.YtepkfkfedmbmnaaGreatDoor
open Go.RowKit
set_option maxRecDepth 100000

/-- What is left of the tokens at a place. -/
def Rest (ts : List Tok) (k : Nat) (m : List Bare) : Prop := (ts.map Tok.bare).drop k = m
/-- Is it that word or sign? -/
def bIs (b : Bare) (s : List UInt8) : Bool := (b.1 == 1 || b.1 == 3) && b.2.1 == s
theorem bIs_isB (x : Tok) (s : List UInt8) : isB x s = bIs x.bare s := rfl
theorem Rest.app {ts : List Tok} {k : Nat} {l m : List Bare} (h : Rest ts k (l ++ m)) : Rest ts (k + l.length) m := by
  unfold Rest at h ⊢
  rw [← List.drop_drop, h, List.drop_left]
theorem Rest.tail {ts : List Tok} {k : Nat} {b : Bare} {m : List Bare} (h : Rest ts k (b :: m)) : Rest ts (k + 1) m := Rest.app (l := [b]) h
theorem Rest.head {ts : List Tok} {k : Nat} {b : Bare} {m : List Bare} (h : Rest ts k (b :: m)) : ∃ x, ts[k]? = some x ∧ x.bare = b := by
  unfold Rest at h
  have h0 : ((ts.map Tok.bare).drop k)[0]? = some b := by rw [h]; rfl
  rw [List.getElem?_drop, Nat.add_zero, List.getElem?_map] at h0
  exact Option.map_eq_some_iff.1 h0
theorem Rest.lt {ts : List Tok} {k : Nat} {b : Bare} {m : List Bare} (h : Rest ts k (b :: m)) : k + m.length + 1 = ts.length := by
  unfold Rest at h
  have := congrArg List.length h
  simp at this
  omega
theorem Rest.next {ts : List Tok} {k : Nat} {b : Bare} {m : List Bare} (h : Rest ts k (b :: m)) (hm : m ≠ []) : nextK ts.length k = k + 1 := by
  have := h.lt
  have : 0 < m.length := List.length_pos_iff.2 hm
  unfold nextK
  rw [if_pos (by omega)]
theorem take_yes {ts : List Tok} {k : Nat} {b : Bare} {m : List Bare} (h : Rest ts k (b :: m)) (hm : m ≠ []) {s : List UInt8} (hb : bIs b s = true) (l : List (List UInt8)) : takeK ts k (s :: l) = takeK ts (k + 1) l := by
  obtain ⟨x, hx, rfl⟩ := h.head
  rw [takeK_cons hx, bIs_isB, hb, if_pos rfl, h.next hm]
theorem take_no {ts : List Tok} {k : Nat} {b : Bare} {m : List Bare} (h : Rest ts k (b :: m)) {s : List UInt8} (hb : bIs b s = false) (l : List (List UInt8)) : takeK ts k (s :: l) = none := by
  obtain ⟨x, hx, rfl⟩ := h.head
  rw [takeK_cons hx, bIs_isB, hb, if_neg (by simp)]
theorem take_one {ts : List Tok} {k : Nat} {b : Bare} {m : List Bare} (h : Rest ts k (b :: m)) (hm : m ≠ []) {s : List UInt8} (hb : bIs b s = true) : takeK ts k [s] = some (k + 1) := take_yes h hm hb []
theorem taken_no {ts : List Tok} {k : Nat} {b : Bare} {m : List Bare} (h : Rest ts k (b :: m)) : ∀ (l : List Int), (∀ o ∈ l, bIs b (opName o) = false) → takenK ts k l = none
  | [], _ => rfl
  | o :: l, ho => by
    unfold takenK
    rw [take_no h (ho o (by simp))]
    exact taken_no h l fun p hp => ho p (by simp [hp])
theorem taken_yes {ts : List Tok} {k : Nat} {b : Bare} {m : List Bare} (h : Rest ts k (b :: m)) (hm : m ≠ []) (o : Int) : ∀ (l r : List Int), (∀ p ∈ l, bIs b (opName p) = false) → bIs b (opName o) = true → takenK ts k (l ++ o :: r) = some (o, k + 1)
  | [], r, _, hb => by
    show takenK ts k (o :: r) = _
    unfold takenK
    rw [take_yes h hm hb]
    rfl
  | p :: l, r, hl, hb => by
    show takenK ts k (p :: (l ++ o :: r)) = _
    unfold takenK
    rw [take_no h (hl p (by simp))]
    exact taken_yes h hm o l r (fun q hq => hl q (by simp [hq])) hb

/-- The level of an operator between two. -/
def lvlOf (o : Int) : Nat := if o = 14 then 0 else if o = 13 then 1 else if 7 ≤ o then 3 else if o = 6 then 4 else if o ≤ 2 then 5 else 6
/-- Nothing from level n on goes on with it. -/
def StopAt (n : Nat) (b : Bare) : Prop := (∀ o ∈ levelOps n, bIs b (opName o) = false) ∧ (n = 3 → bIs b sIs = false)
/-- No name or call goes on with it. -/
def NoExt (b : Bare) : Prop := bIs b [40] = false ∧ bIs b [46] = false
/-- It begins neither with not nor with -, nor with *. -/
def FirstOK (b : Bare) : Prop := bIs b sNot = false ∧ bIs b [45] = false ∧ bIs b [42] = false

/-- From some number of steps on. -/
def Ev (P : Nat → Prop) : Prop := ∃ f0, ∀ f, f0 ≤ f → P f
theorem Ev.and {P Q : Nat → Prop} (h : Ev P) (k : Ev Q) : Ev fun f => P f ∧ Q f := by
  obtain ⟨a, h⟩ := h
  obtain ⟨b, k⟩ := k
  exact ⟨a + b, fun f hf => ⟨h f (by omega), k f (by omega)⟩⟩
theorem Ev.mono {P Q : Nat → Prop} (h : Ev P) (k : ∀ f, P f → Q f) : Ev Q := by
  obtain ⟨a, h⟩ := h
  exact ⟨a, fun f hf => k f (h f hf)⟩
theorem Ev.of {P : Nat → Prop} (h : ∀ f, P f) : Ev P := ⟨0, fun f _ => h f⟩
/-- One step more. -/
theorem Ev.step {ts : List Tok} {j : Job} {r : Res} (h : Ev fun f => stepR ts (runR ts f) j = r) : Ev fun f => runR ts f j = r := by
  obtain ⟨a, h⟩ := h
  refine ⟨a + 1, fun f hf => ?_⟩
  obtain ⟨g, rfl⟩ : ∃ g, f = g + 1 := ⟨f - 1, by omega⟩
  exact h g (by omega)

theorem step_2 (ts : List Tok) (run : Job → Res) (k d : Nat) : stepR ts run (.rd 2 k d) = (match takeK ts k [sNot] with
      | some k' => (deeperR d (run (.rd 2 k' (d + 1)))).bind fun k2 y => .good k2 (opE 16 [y])
      | none => run (.rd 3 k d)) := rfl
theorem step_7 (ts : List Tok) (run : Job → Res) (k d : Nat) : stepR ts run (.rd 7 k d) = (match takeK ts k [[45]] with
      | some k' => (deeperR d (run (.rd 7 k' (d + 1)))).bind fun k2 y => .good k2 (opE 15 [y])
      | none => aloneR ts run k d) := rfl
theorem step_3 (ts : List Tok) (run : Job → Res) (k d : Nat) : stepR ts run (.rd 3 k d) = cmpR ts run k d := rfl
theorem step_n (ts : List Tok) (run : Job → Res) {n : Nat} (k d : Nat) (h2 : n ≠ 2) (h7 : n ≠ 7) (h3 : n ≠ 3) : stepR ts run (.rd n k d) = (run (.rd (n + 1) k d)).bind fun k1 x => run (.lp n k1 d x) := by
  simp only [stepR]
  rw [if_neg h2, if_neg h7, if_neg h3]
theorem step_lp (ts : List Tok) (run : Job → Res) (n k d : Nat) (x : Ex) : stepR ts run (.lp n k d x) = (match takenK ts k (levelOps n) with
      | none => .good k x
      | some (o, k') => (run (.rd (n + 1) k' d)).bind fun k2 y => run (.lp n k2 d (opE o [x, y]))) := rfl
theorem step_args (ts : List Tok) (run : Job → Res) (nm : List UInt8) (k d : Nat) (acc : List Ex) : stepR ts run (.args nm k d acc) = (deeperR d (run (.rd 0 k (d + 1)))).bind fun k1 x =>
    match (if nm = sCoalesce then takeK ts k1 [[44]] else none) with
    | some k2 => run (.args nm k2 d (acc ++ [x]))
    | none => match takeK ts k1 [[41]] with
      | some k2 => .good k2 (callE nm (acc ++ [x]))
      | none => .bad 261 := rfl
theorem lp_stop {ts : List Tok} {n k d : Nat} {x : Ex} {b : Bare} {m : List Bare} (hr : Rest ts k (b :: m)) (hs : ∀ o ∈ levelOps n, bIs b (opName o) = false) : Ev fun f => runR ts f (.lp n k d x) = .good k x :=
  Ev.step (Ev.of fun f => by rw [step_lp, taken_no hr _ hs])
/-- One level up. -/
theorem lift {ts : List Tok} {n k d k2 : Nat} {y : Ex} {b : Bare} {m : List Bare} (hn : n ≤ 6) (h : Ev fun f => runR ts f (.rd (n + 1) k d) = .good k2 y) (hr : Rest ts k2 (b :: m)) (hs : StopAt n b) (h2 : n = 2 → takeK ts k [sNot] = none) :
    Ev fun f => runR ts f (.rd n k d) = .good k2 y := by
  apply Ev.step
  by_cases e2 : n = 2
  · subst e2
    refine h.mono fun f hf => ?_
    rw [step_2, h2 rfl]
    exact hf
  by_cases e3 : n = 3
  · subst e3
    refine h.mono fun f hf => ?_
    rw [step_3]
    unfold cmpR
    rw [show runR ts f (.rd 4 k d) = .good k2 y from hf]
    simp only [Res.bind]
    rw [taken_no hr _ hs.1, take_no hr (hs.2 rfl), take_no hr (hs.2 rfl)]
  · refine (h.and (lp_stop (n := n) (d := d) (x := y) hr hs.1)).mono fun f hf => ?_
    rw [step_n _ _ _ _ e2 (by omega) e3, hf.1]
    exact hf.2
theorem lifts {ts : List Tok} {k d k2 : Nat} {y : Ex} {b : Bare} {m : List Bare} {L : Nat} (hL : L ≤ 7) (h : Ev fun f => runR ts f (.rd L k d) = .good k2 y) (hr : Rest ts k2 (b :: m)) (h2 : takeK ts k [sNot] = none ∨ L ≤ 2) :
    ∀ (c n : Nat), n + c = L → (∀ j, n ≤ j → j < L → StopAt j b) → Ev fun f => runR ts f (.rd n k d) = .good k2 y
  | 0, n, e, _ => by
    obtain rfl : n = L := by omega
    exact h
  | c + 1, n, e, hs => by
    have ih := lifts hL h hr h2 c (n + 1) (by omega) (fun j hj hj2 => hs j (by omega) hj2)
    refine lift (by omega) ih hr (hs n (Nat.le_refl _) (by omega)) ?_
    intro e2
    rcases h2 with h2 | h2
    · exact h2
    · omega

/-- x stands alone, nested so deep. -/
def Alone (dp : Nat) (x : Ex) : Prop := ∀ (ts : List Tok) (k d : Nat) (b : Bare) (m : List Bare), Rest ts k (tkE x ++ b :: m) → NoExt b → d + dp ≤ 60 → Ev fun f => aloneR ts (runR ts f) k d = .good (k + (tkE x).length) x
def Begins (l : List Bare) : Prop := ∃ c q, l = c :: q ∧ FirstOK c
theorem level_alone {dp : Nat} {x : Ex} (h : Alone dp x) (hb : Begins (tkE x)) {ts : List Tok} {k d n : Nat} {b : Bare} {m : List Bare} (hn : n ≤ 7) (hr : Rest ts k (tkE x ++ b :: m)) (he : NoExt b) (hd : d + dp ≤ 60) (hs : ∀ j, n ≤ j → j < 7 → StopAt j b) :
    Ev fun f => runR ts f (.rd n k d) = .good (k + (tkE x).length) x := by
  obtain ⟨c, q, e, hc⟩ := hb
  have hr0 : Rest ts k (c :: (q ++ b :: m)) := by rw [e] at hr; exact hr
  have h7 : Ev fun f => runR ts f (.rd 7 k d) = .good (k + (tkE x).length) x := by
    apply Ev.step
    refine (h ts k d b m hr he hd).mono fun f hf => ?_
    rw [step_7, take_no hr0 hc.2.1]
    exact hf
  exact lifts (Nat.le_refl 7) h7 hr.app (.inl (take_no hr0 hc.1 _)) (7 - n) n (by omega) hs
theorem fourteen {o : Int} (h : 1 ≤ o ∧ o ≤ 14) : o = 1 ∨ o = 2 ∨ o = 3 ∨ o = 4 ∨ o = 5 ∨ o = 6 ∨ o = 7 ∨ o = 8 ∨ o = 9 ∨ o = 10 ∨ o = 11 ∨ o = 12 ∨ o = 13 ∨ o = 14 := by omega
theorem taken_op {ts : List Tok} {k : Nat} {m : List Bare} {o : Int} (ho : 1 ≤ o ∧ o ≤ 14) (h : Rest ts k (opTok o :: m)) (hm : m ≠ []) : takenK ts k (levelOps (lvlOf o)) = some (o, k + 1) := by
  rcases fourteen ho with rfl | rfl | rfl | rfl | rfl | rfl | rfl | rfl | rfl | rfl | rfl | rfl | rfl | rfl
  · exact taken_yes h hm 1 [] [2] (by decide) (by decide)
  · exact taken_yes h hm 2 [1] [] (by decide) (by decide)
  · exact taken_yes h hm 3 [] [4, 5] (by decide) (by decide)
  · exact taken_yes h hm 4 [3] [5] (by decide) (by decide)
  · exact taken_yes h hm 5 [3, 4] [] (by decide) (by decide)
  · exact taken_yes h hm 6 [] [] (by decide) (by decide)
  · exact taken_yes h hm 7 [] [8, 9, 10, 11, 12] (by decide) (by decide)
  · exact taken_yes h hm 8 [7] [9, 10, 11, 12] (by decide) (by decide)
  · exact taken_yes h hm 9 [7, 8] [10, 11, 12] (by decide) (by decide)
  · exact taken_yes h hm 10 [7, 8, 9] [11, 12] (by decide) (by decide)
  · exact taken_yes h hm 11 [7, 8, 9, 10] [12] (by decide) (by decide)
  · exact taken_yes h hm 12 [7, 8, 9, 10, 11] [] (by decide) (by decide)
  · exact taken_yes h hm 13 [] [] (by decide) (by decide)
  · exact taken_yes h hm 14 [] [] (by decide) (by decide)
def stopB (j : Nat) (b : Bare) : Bool := (levelOps j).all (fun o => !bIs b (opName o)) && (j != 3 || !bIs b sIs)
theorem stop_of {j : Nat} {b : Bare} (h : stopB j b = true) : StopAt j b := by
  unfold stopB at h
  simp only [Bool.and_eq_true, List.all_eq_true, Bool.not_eq_true', Bool.or_eq_true, bne_iff_ne] at h
  exact ⟨h.1, fun e => by rcases h.2 with h | h; exact absurd e h; exact h⟩
theorem seven {j : Nat} (h : j < 7) : j = 0 ∨ j = 1 ∨ j = 2 ∨ j = 3 ∨ j = 4 ∨ j = 5 ∨ j = 6 := by omega
theorem op_stops {o : Int} (ho : 1 ≤ o ∧ o ≤ 14) : NoExt (opTok o) ∧ lvlOf o ≤ 6 ∧ lvlOf o ≠ 2 ∧ ∀ j, lvlOf o + 1 ≤ j → j < 7 → StopAt j (opTok o) := by
  rcases fourteen ho with rfl | rfl | rfl | rfl | rfl | rfl | rfl | rfl | rfl | rfl | rfl | rfl | rfl | rfl
  all_goals
    refine ⟨⟨by decide, by decide⟩, by decide, by decide, ?_⟩
    intro j hj h7
    rcases seven h7 with rfl | rfl | rfl | rfl | rfl | rfl | rfl <;> first | exact stop_of (by decide) | exact absurd hj (by decide)
theorem close_stops (j : Nat) (h : j < 7) : StopAt j (sg 41) := by
  rcases seven h with rfl | rfl | rfl | rfl | rfl | rfl | rfl <;> exact stop_of (by decide)
theorem comma_stops (j : Nat) (h : j < 7) : StopAt j (sg 44) := by
  rcases seven h with rfl | rfl | rfl | rfl | rfl | rfl | rfl <;> exact stop_of (by decide)

/-- Two with an operator between. -/
theorem read_two {da dc : Nat} {a c : Ex} (hA : Alone da a) (hC : Alone dc c) (bA : Begins (tkE a)) (bC : Begins (tkE c)) {o : Int} (ho : 1 ≤ o ∧ o ≤ 14) {ts : List Tok} {k d : Nat} {m : List Bare} (hd : d + da ≤ 60) (hd2 : d + dc ≤ 60)
    (hr : Rest ts k (tkE a ++ opTok o :: (tkE c ++ sg 41 :: m))) : Ev fun f => runR ts f (.rd 0 k d) = .good (k + (tkE a).length + 1 + (tkE c).length) (opE o [a, c]) := by
  obtain ⟨hN, hL, hL2, hS⟩ := op_stops ho
  have h1 := level_alone hA bA (n := lvlOf o + 1) (by omega) hr hN hd hS
  have hr2 := hr.app
  have ht := taken_op ho hr2 (by simp)
  have hr3 := hr2.tail
  have h2 := level_alone hC bC (n := lvlOf o + 1) (by omega) hr3 ⟨by decide, by decide⟩ hd2 (fun j _ hj => close_stops j hj)
  have hr4 := hr3.app
  have hfirst : takeK ts k [sNot] = none := by
    obtain ⟨x, q, e, hx⟩ := bA
    rw [e] at hr
    exact take_no hr hx.1 _
  have hL' : Ev fun f => runR ts f (.rd (lvlOf o) k d) = .good (k + (tkE a).length + 1 + (tkE c).length) (opE o [a, c]) := by
    apply Ev.step
    by_cases e3 : lvlOf o = 3
    · rw [e3] at h1 h2 ht ⊢
      refine (h1.and h2).mono fun f hf => ?_
      rw [step_3]
      unfold cmpR
      rw [show runR ts f (.rd 4 k d) = _ from hf.1]
      simp only [Res.bind]
      rw [ht]
      simp only
      rw [show runR ts f (.rd 4 _ d) = _ from hf.2]
    · have h3 := lp_stop (n := lvlOf o) (d := d) (x := opE o [a, c]) hr4 (close_stops _ (by omega)).1
      have h4 : Ev fun f => runR ts f (.lp (lvlOf o) (k + (tkE a).length) d a) = .good (k + (tkE a).length + 1 + (tkE c).length) (opE o [a, c]) := by
        apply Ev.step
        refine (h2.and h3).mono fun f hf => ?_
        rw [step_lp, ht]
        simp only
        rw [hf.1]
        exact hf.2
      refine (h1.and h4).mono fun f hf => ?_
      rw [step_n _ _ _ _ hL2 (by omega) e3, hf.1]
      exact hf.2
  exact lifts (by omega) hL' hr4 (.inl hfirst) (lvlOf o) 0 (by omega) (fun j _ hj => close_stops j (by omega))

/-- In parentheses. -/
theorem paren {ts : List Tok} {k d k2 : Nat} {y : Ex} {m : List Bare} {b : Bare} (h0 : ∃ q, Rest ts k (sg 40 :: q) ∧ q ≠ []) (hd : d < 60) (h : Ev fun f => runR ts f (.rd 0 (k + 1) (d + 1)) = .good k2 y) (hr : Rest ts k2 (sg 41 :: b :: m)) :
    Ev fun f => aloneR ts (runR ts f) k d = .good (k2 + 1) y := by
  obtain ⟨q, hq, hne⟩ := h0
  obtain ⟨x, hx, hb⟩ := hq.head
  have hk : x.k = 3 := congrArg Prod.fst hb
  refine h.mono fun f hf => ?_
  unfold aloneR
  rw [hx]
  simp only
  rw [if_neg (by omega)]
  have hc : constR ts k [(sFalse, 0), (sTrue, 1), (sNull, 2)] = none := by
    unfold constR
    rw [take_no hq (by decide)]
    unfold constR
    rw [take_no hq (by decide)]
    unfold constR
    rw [take_no hq (by decide)]
    rfl
  rw [hc]
  simp only
  rw [take_one hq hne (by decide)]
  simp only
  rw [hf]
  unfold deeperR
  rw [if_pos hd]
  simp only [Res.bind]
  rw [take_one hr (by simp) (by decide)]

end Go.Proofs.YtepkfkfedmbmnaaGreatDoor

namespace Go.Proofs.YtepkfkfedmbmnaaGreatDoor
open Go.RowKit
set_option maxRecDepth 100000

mutual
/-- How deep it is nested. -/
def deepE : Ex → Nat
  | .mk _ _ _ _ o args => (if args.isEmpty then 0 else 1) + deepsE args + (if o = 16 ∨ o = 15 then 1 else 0)
def deepsE : List Ex → Nat
  | [] => 0
  | x :: r => max (deepE x) (deepsE r)
end
theorem deep_le : ∀ {l : List Ex} {y : Ex}, y ∈ l → deepE y ≤ deepsE l
  | x :: l, y, h => by
    simp only [deepsE]
    rcases List.mem_cons.1 h with rfl | h
    · omega
    · have := deep_le h; omega

/-- What begins with a word that is no keyword's. -/
structure Named (f : List UInt8) : Prop where
  word : Wd f
  kw : kwB f = false
theorem named_ne {f : List UInt8} (h : Named f) (c : UInt8) (hc : letterB c = false) : (f == [c]) = false := by
  obtain ⟨d, r, e, hl, _, _⟩ := h.word
  rw [e]
  cases hq : (d :: r == [c])
  · rfl
  · have := eq_of_beq hq
    injection this with h1 _
    rw [h1, hc] at hl
    cases hl
theorem kw_ne {f s : List UInt8} (h : kwB f = false) (hs : kwB s = true) : (f == s) = false := by
  cases hq : (f == s)
  · rfl
  · have := eq_of_beq hq
    rw [this, hs] at h
    cases h
theorem name_first {f : List UInt8} (h : Named f) : FirstOK (wd f) := by
  refine ⟨?_, ?_, ?_⟩
  · show (true && (f == sNot)) = false
    rw [kw_ne h.kw (by rfl)]; rfl
  · show (true && (f == [45])) = false
    rw [named_ne h 45 (by decide)]; rfl
  · show (true && (f == [42])) = false
    rw [named_ne h 42 (by decide)]; rfl
theorem const_none {ts : List Tok} {k : Nat} {b : Bare} {m : List Bare} (h : Rest ts k (b :: m)) (h1 : bIs b sFalse = false) (h2 : bIs b sTrue = false) (h3 : bIs b sNull = false) : constR ts k [(sFalse, 0), (sTrue, 1), (sNull, 2)] = none := by
  unfold constR
  rw [take_no h h1]
  unfold constR
  rw [take_no h h2]
  unfold constR
  rw [take_no h h3]
  rfl
/-- A name at the head. -/
theorem alone_name {ts : List Tok} {run : Job → Res} {k d : Nat} {f : List UInt8} {m : List Bare} (hf : Named f) (h : Rest ts k (wd f :: m)) (hm : m ≠ []) :
    aloneR ts run k d = match takeK ts (k + 1) [[40]] with
            | some k2 => calledR ts run f k2 d
            | none => match takeK ts (k + 1) [[46]] with
              | some k2 => match nameK ts k2 with
                | none => .bad 261
                | some (c, k3) => .good k3 (colE f c)
              | none => .good (k + 1) (colE [] f) := by
  obtain ⟨x, hx, hb⟩ := h.head
  have hk : x.k = 1 := congrArg Prod.fst hb
  have ht : x.t = f := congrArg (fun b : Bare => b.2.1) hb
  have hc := const_none h (by show (true && (f == sFalse)) = false; rw [kw_ne hf.kw (by rfl)]; rfl) (by show (true && (f == sTrue)) = false; rw [kw_ne hf.kw (by rfl)]; rfl) (by show (true && (f == sNull)) = false; rw [kw_ne hf.kw (by rfl)]; rfl)
  have hn : nameK ts k = some (f, k + 1) := by
    unfold nameK
    rw [hx]
    simp only
    rw [if_pos (by unfold isName1; rw [hk, ht, hf.kw]; rfl), ht, h.next hm]
  unfold aloneR
  rw [hx]
  simp only
  rw [if_neg (by omega), hc]
  simp only
  rw [take_no h (by show (true && (f == [40])) = false; rw [named_ne hf 40 (by decide)]; rfl), hn]
  try rfl

/-- A call's arguments. -/
theorem args_all {nm : List UInt8} {d dp : Nat} (hd : d < 60) (hdp : d + 1 + dp ≤ 60) : ∀ (l : List Ex) (ts : List Tok) (k : Nat) (acc : List Ex) (m : List Bare), l ≠ [] → (∀ y ∈ l, Alone dp y ∧ Begins (tkE y)) → (nm = sCoalesce ∨ l.length = 1) → m ≠ [] →
    Rest ts k (joinTk (l.map tkE) ++ sg 41 :: m) → Ev fun f => runR ts f (.args nm k d acc) = .good (k + (joinTk (l.map tkE)).length + 1) (callE nm (acc ++ l))
  | [], _, _, _, _, h, _, _, _, _ => absurd rfl h
  | [x], ts, k, acc, m, _, hl, _, hm, hr => by
    obtain ⟨hA, hB⟩ := hl x (by simp)
    have hr1 : Rest ts k (tkE x ++ sg 41 :: m) := hr
    have h1 := level_alone hA hB (n := 0) (d := d + 1) (by omega) hr1 ⟨by decide, by decide⟩ (by omega) (fun j _ hj => close_stops j hj)
    have hr2 := hr1.app
    apply Ev.step
    refine h1.mono fun f hf => ?_
    rw [step_args, hf]
    unfold deeperR
    rw [if_pos hd]
    simp only [Res.bind]
    have e : (if nm = sCoalesce then takeK ts (k + (tkE x).length) [[44]] else none) = none := by
      split
      · exact take_no hr2 (by decide) _
      · rfl
    rw [e]
    simp only
    rw [take_one hr2 hm (by decide)]
    rfl
  | x :: y :: l, ts, k, acc, m, _, hl, hone, hm, hr => by
    obtain ⟨hA, hB⟩ := hl x (by simp)
    have hco : nm = sCoalesce := by
      rcases hone with h | h
      · exact h
      · simp at h
    have ej : joinTk ((x :: y :: l).map tkE) = tkE x ++ sg 44 :: joinTk ((y :: l).map tkE) := by simp [joinTk]
    have hr1 : Rest ts k (tkE x ++ sg 44 :: (joinTk ((y :: l).map tkE) ++ sg 41 :: m)) := by rw [ej] at hr; simpa using hr
    have h1 := level_alone hA hB (n := 0) (d := d + 1) (by omega) hr1 ⟨by decide, by decide⟩ (by omega) (fun j _ hj => comma_stops j hj)
    have hr2 := hr1.app
    have hr3 := hr2.tail
    have ih := args_all hd hdp (y :: l) ts (k + (tkE x).length + 1) (acc ++ [x]) m (by simp) (fun z hz => hl z (by simp [hz])) (.inl hco) hm hr3
    apply Ev.step
    refine (h1.and ih).mono fun f hf => ?_
    rw [step_args, hf.1]
    unfold deeperR
    rw [if_pos hd]
    simp only [Res.bind]
    rw [if_pos hco, take_one hr2 (by simp) (by decide)]
    simp only
    rw [hf.2, ej]
    simp [Nat.add_assoc, Nat.add_comm, Nat.add_left_comm]
/-- A call. -/
theorem call_all {f : List UInt8} (hf : Named f) (hk : knownF f = true) {d dp : Nat} {l : List Ex} (hne : l ≠ []) (hl : ∀ y ∈ l, Alone dp y ∧ Begins (tkE y)) (hone : f = sCoalesce ∨ l.length = 1) {ts : List Tok} {k : Nat} {b : Bare} {m : List Bare} (hd : d + 1 + dp ≤ 60)
    (hr : Rest ts k (callTk f (joinTk (l.map tkE)) ++ b :: m)) : Ev fun g => aloneR ts (runR ts g) k d = .good (k + (callTk f (joinTk (l.map tkE))).length) (callE f l) := by
  have hr1 : Rest ts k (wd f :: sg 40 :: (joinTk (l.map tkE) ++ sg 41 :: b :: m)) := by simpa [callTk] using hr
  have hr2 := hr1.tail
  have hr3 := hr2.tail
  have h1 := args_all (nm := f) (d := d) (by omega) hd l ts (k + 1 + 1) [] (b :: m) hne hl hone (by simp) hr3
  have hnostar : f = sCount → takeK ts (k + 1 + 1) [[42], [41]] = none := fun _ => by
    cases l with
    | nil => exact absurd rfl hne
    | cons x r =>
      obtain ⟨c, q, e, hc⟩ := (hl x (by simp)).2
      cases r with
      | nil =>
        have : Rest ts (k + 1 + 1) (c :: (q ++ sg 41 :: b :: m)) := by
          have := hr3
          simp only [List.map_cons, List.map_nil, joinTk, e] at this
          exact this
        exact take_no this hc.2.2 _
      | cons y r =>
        have : Rest ts (k + 1 + 1) (c :: (q ++ sg 44 :: joinTk ((y :: r).map tkE) ++ sg 41 :: b :: m)) := by
          have := hr3
          simp only [List.map_cons, joinTk, e] at this
          simpa using this
        exact take_no this hc.2.2 _
  refine h1.mono fun g hg => ?_
  rw [alone_name hf hr1 (by simp), take_one hr2 (by simp) (by decide)]
  simp only
  unfold calledR
  rw [if_neg (by rw [hk]; simp)]
  have e : (k + 1 + 1 + (joinTk (l.map tkE)).length + 1) = k + (callTk f (joinTk (l.map tkE))).length := by simp [callTk]; omega
  rw [e, List.nil_append] at hg
  split
  · rw [hnostar (by assumption)]
    exact hg
  · exact hg

theorem sum_named {n : List UInt8} (h : sumNames.contains n = true) : Named n ∧ knownF n = true := by
  have : n = sCount ∨ n = sSum ∨ n = sMin ∨ n = sMax := by simpa [sumNames] using h
  refine ⟨⟨sum_word h, ?_⟩, ?_⟩
  · rcases this with rfl | rfl | rfl | rfl <;> rfl
  · unfold knownF; rw [h]; simp
/-- not, or -, ahead of one. -/
theorem read_not {da : Nat} {a : Ex} (hA : Alone da a) (bA : Begins (tkE a)) {ts : List Tok} {k d : Nat} {m : List Bare} (hd : d + 1 + da ≤ 60) (hr : Rest ts k (wd sNot :: (tkE a ++ sg 41 :: m))) :
    Ev fun f => runR ts f (.rd 0 k d) = .good (k + 1 + (tkE a).length) (opE 16 [a]) := by
  have hr2 := hr.tail
  have h1 := level_alone hA bA (n := 2) (d := d + 1) (by omega) hr2 ⟨by decide, by decide⟩ hd (fun j _ hj => close_stops j hj)
  have h2 : Ev fun f => runR ts f (.rd 2 k d) = .good (k + 1 + (tkE a).length) (opE 16 [a]) := by
    apply Ev.step
    refine h1.mono fun f hf => ?_
    rw [step_2, take_one hr (by simp) (by decide)]
    simp only
    rw [hf]
    unfold deeperR
    rw [if_pos (by omega)]
    rfl
  exact lifts (by omega) h2 hr2.app (.inr (Nat.le_refl 2)) 2 0 rfl (fun j _ hj => close_stops j (by omega))
theorem read_neg {da : Nat} {a : Ex} (hA : Alone da a) (bA : Begins (tkE a)) {ts : List Tok} {k d : Nat} {m : List Bare} (hd : d + 1 + da ≤ 60) (hr : Rest ts k (sg 45 :: (tkE a ++ sg 41 :: m))) :
    Ev fun f => runR ts f (.rd 0 k d) = .good (k + 1 + (tkE a).length) (opE 15 [a]) := by
  have hr2 := hr.tail
  have h1 := level_alone hA bA (n := 7) (d := d + 1) (by omega) hr2 ⟨by decide, by decide⟩ hd (fun j _ hj => close_stops j hj)
  have h2 : Ev fun f => runR ts f (.rd 7 k d) = .good (k + 1 + (tkE a).length) (opE 15 [a]) := by
    apply Ev.step
    refine h1.mono fun f hf => ?_
    rw [step_7, take_one hr (by simp) (by decide)]
    simp only
    rw [hf]
    unfold deeperR
    rw [if_pos (by omega)]
    rfl
  exact lifts (by omega) h2 hr2.app (.inl (take_no hr (by decide) _)) 7 0 rfl (fun j _ hj => close_stops j (by omega))
theorem is_stops (j : Nat) (h4 : 4 ≤ j) (h : j < 7) : StopAt j (wd sIs) := by
  rcases seven h with rfl | rfl | rfl | rfl | rfl | rfl | rfl <;> first | exact stop_of (by decide) | exact absurd h4 (by decide)
/-- Is one null, or not? -/
theorem read_null {da : Nat} {a : Ex} (hA : Alone da a) (bA : Begins (tkE a)) {o : Int} (ho : o = 17 ∨ o = 18) {ts : List Tok} {k d : Nat} {m : List Bare} (hd : d + da ≤ 60) (hr : Rest ts k (tkE a ++ (nullTk o ++ sg 41 :: m))) :
    Ev fun f => runR ts f (.rd 0 k d) = .good (k + (tkE a).length + (nullTk o).length) (opE o [a]) := by
  have hfirst : takeK ts k [sNot] = none := by
    obtain ⟨x, q, e, hx⟩ := bA
    rw [e] at hr
    exact take_no hr hx.1 _
  have hend := hr.app.app
  rcases ho with rfl | rfl
  · have hr1 : Rest ts k (tkE a ++ wd sIs :: wd sNull :: sg 41 :: m) := by simpa [nullTk] using hr
    have h1 := level_alone hA bA (n := 4) (by omega) hr1 ⟨by decide, by decide⟩ hd (fun j h4 hj => is_stops j h4 hj)
    have hr2 := hr1.app
    have hr3 := hr2.tail
    have h2 : Ev fun f => runR ts f (.rd 3 k d) = .good (k + (tkE a).length + 2) (opE 17 [a]) := by
      apply Ev.step
      refine h1.mono fun f hf => ?_
      rw [step_3]
      unfold cmpR
      rw [hf]
      simp only [Res.bind]
      rw [taken_no hr2 _ (by decide)]
      simp only
      rw [take_yes hr2 (by simp) (by decide), take_one hr3 (by simp) (by decide)]
    exact lifts (by omega) h2 hend (.inl hfirst) 3 0 rfl (fun j _ hj => close_stops j (by omega))
  · have hr1 : Rest ts k (tkE a ++ wd sIs :: wd sNot :: wd sNull :: sg 41 :: m) := by simpa [nullTk] using hr
    have h1 := level_alone hA bA (n := 4) (by omega) hr1 ⟨by decide, by decide⟩ hd (fun j h4 hj => is_stops j h4 hj)
    have hr2 := hr1.app
    have hr3 := hr2.tail
    have hr4 := hr3.tail
    have h2 : Ev fun f => runR ts f (.rd 3 k d) = .good (k + (tkE a).length + 3) (opE 18 [a]) := by
      apply Ev.step
      refine h1.mono fun f hf => ?_
      rw [step_3]
      unfold cmpR
      rw [hf]
      simp only [Res.bind]
      rw [taken_no hr2 _ (by decide)]
      simp only
      rw [take_yes hr2 (by simp) (by decide), take_no hr3 (by decide)]
      simp only
      rw [take_yes hr2 (by simp) (by decide), take_yes hr3 (by simp) (by decide), take_one hr4 (by simp) (by decide)]
    exact lifts (by omega) h2 hend (.inl hfirst) 3 0 rfl (fun j _ hj => close_stops j (by omega))

/-- A value. -/
theorem alone_val {v : Int × Int × List UInt8} (h : chk v.1 v.2.1 v.2.2 = 0) {ts : List Tok} {run : Job → Res} {k d : Nat} {b : Bare} {m : List Bare} (hr : Rest ts k (valTok v :: b :: m)) : aloneR ts run k d = .good (k + 1) (valE v) := by
  obtain ⟨x, hx, hb⟩ := hr.head
  obtain ⟨v1, v2, v3⟩ := v
  simp only at h
  unfold aloneR
  rw [hx]
  simp only
  by_cases h01 : v1 = 0 ∨ v1 = 1
  · have hv : valTok (v1, v2, v3) = (1, lit v1 v2 v3, (0, 0, [])) := by unfold valTok; rw [if_pos h01]
    have hk : x.k = 1 := by have := congrArg Prod.fst hb; rw [hv] at this; exact this
    rw [if_neg (by omega)]
    obtain ⟨_, hc⟩ := chk_ways h
    rcases hc with ⟨rfl, rfl, rfl⟩ | ⟨rfl, rfl, rfl⟩ | ⟨rfl, rfl, rfl⟩ | ⟨rfl, rfl⟩ | ⟨rfl, rfl⟩ | ⟨rfl, rfl⟩
    · have : constR ts k [(sFalse, 0), (sTrue, 1), (sNull, 2)] = some (k + 1, 2) := by
        unfold constR
        rw [take_no hr (by decide)]
        unfold constR
        rw [take_no hr (by decide)]
        unfold constR
        rw [take_one hr (by simp) (by decide)]
      rw [this]
      rfl
    · have : constR ts k [(sFalse, 0), (sTrue, 1), (sNull, 2)] = some (k + 1, 0) := by
        unfold constR
        rw [take_one hr (by simp) (by decide)]
      rw [this]
      rfl
    · have : constR ts k [(sFalse, 0), (sTrue, 1), (sNull, 2)] = some (k + 1, 1) := by
        unfold constR
        rw [take_no hr (by decide)]
        unfold constR
        rw [take_one hr (by simp) (by decide)]
      rw [this]
      rfl
    · omega
    · omega
    · omega
  · have hv : valTok (v1, v2, v3) = (2, lit v1 v2 v3, (v1, v2, v3)) := by unfold valTok; rw [if_neg h01]
    have hk : x.k = 2 := by have := congrArg Prod.fst hb; rw [hv] at this; exact this
    have hxv : x.v = (v1, v2, v3) := by have := congrArg (fun b : Bare => b.2.2) hb; rw [hv] at this; exact this
    rw [if_pos hk, hr.next (by simp), hxv]
theorem val_first {v : Int × Int × List UInt8} (h : chk v.1 v.2.1 v.2.2 = 0) : FirstOK (valTok v) := by
  obtain ⟨v1, v2, v3⟩ := v
  by_cases h01 : v1 = 0 ∨ v1 = 1
  · obtain ⟨_, hc⟩ := chk_ways h
    rcases hc with ⟨rfl, rfl, rfl⟩ | ⟨rfl, rfl, rfl⟩ | ⟨rfl, rfl, rfl⟩ | ⟨rfl, rfl⟩ | ⟨rfl, rfl⟩ | ⟨rfl, rfl⟩
    · exact ⟨by decide, by decide, by decide⟩
    · exact ⟨by decide, by decide, by decide⟩
    · exact ⟨by decide, by decide, by decide⟩
    · omega
    · omega
    · omega
  · have hv : valTok (v1, v2, v3) = (2, lit v1 v2 v3, (v1, v2, v3)) := by unfold valTok; rw [if_neg h01]
    rw [hv]
    exact ⟨rfl, rfl, rfl⟩

end Go.Proofs.YtepkfkfedmbmnaaGreatDoor

namespace Go.Proofs.YtepkfkfedmbmnaaGreatDoor
open Go.RowKit
set_option maxRecDepth 100000

theorem named_of {s : List UInt8} (h : nameB s = true) : Named s := ⟨(name_word h).1, (name_word h).2⟩
theorem Alone.mono {a b : Nat} {x : Ex} (h : Alone a x) (hab : a ≤ b) : Alone b x := fun ts k d c m hr he hd => h ts k d c m hr he (by omega)
theorem alone_all : ∀ (n : Nat) (x : Ex), SizeOf.sizeOf x ≤ n → checkB x = true → Alone (deepE x) x ∧ Begins (tkE x)
  | 0, x, hm, _ => by cases x; simp at hm
  | n + 1, x, hm, hc => by
    obtain ⟨hr, hca⟩ := check_parts hc
    have ih : ∀ y ∈ x.args, Alone (deepE y) y ∧ Begins (tkE y) := fun y hy => alone_all n y (by have := ex_size hy; omega) (hca y hy)
    obtain ⟨k, v, t, nm, o, args⟩ := x
    simp only [Ex.args] at ih
    clear hca hc hm
    replace hr : rightF k v t nm o args = true := hr
    unfold rightF at hr
    simp only [tkE, tksE_map, deepE, Alone]
    unfold tellTk
    by_cases h1 : k = 1
    · rw [if_pos h1] at hr ⊢
      simp only [Bool.and_eq_true, beq_iff_eq, List.isEmpty_iff] at hr
      obtain ⟨⟨⟨⟨⟨rfl, rfl⟩, rfl⟩, rfl⟩, hv⟩, _⟩ := hr
      subst h1
      refine ⟨fun ts q d b m hrest he hd => Ev.of fun f => ?_, ⟨_, [], rfl, val_first hv⟩⟩
      rw [alone_val hv hrest]
      rfl
    rw [if_neg h1] at hr ⊢
    by_cases h2 : k = 2
    · rw [if_pos h2] at hr ⊢
      simp only [Bool.and_eq_true, beq_iff_eq, List.isEmpty_iff, Bool.or_eq_true] at hr
      obtain ⟨⟨⟨⟨rfl, rfl⟩, rfl⟩, hn⟩, ht⟩ := hr
      subst h2
      have hN := named_of hn
      by_cases h0 : t = []
      · subst h0
        rw [if_pos rfl]
        refine ⟨fun ts q d b m hrest he hd => Ev.of fun f => ?_, ⟨_, [], rfl, name_first hN⟩⟩
        have h2 : Rest ts q (wd nm :: b :: m) := hrest
        rw [alone_name hN h2 (by simp), take_no h2.tail he.1]
        simp only
        rw [take_no h2.tail he.2]
        rfl
      · have hT := named_of (ht.resolve_left h0)
        rw [if_neg h0]
        refine ⟨fun ts q d b m hrest he hd => Ev.of fun f => ?_, ⟨_, _, rfl, name_first hT⟩⟩
        have h2 : Rest ts q (wd t :: sg 46 :: wd nm :: b :: m) := hrest
        have h3 := h2.tail
        have h4 := h3.tail
        have hnk : nameK ts (q + 1 + 1) = some (nm, q + 1 + 1 + 1) := by
          obtain ⟨x, hx, hb⟩ := h4.head
          have hk : x.k = 1 := congrArg Prod.fst hb
          have htx : x.t = nm := congrArg (fun b : Bare => b.2.1) hb
          unfold nameK
          rw [hx]
          simp only
          rw [if_pos (by unfold isName1; rw [hk, htx, hN.kw]; rfl), htx, h4.next (by simp)]
        rw [alone_name hT h2 (by simp), take_no h3 (by decide)]
        simp only
        rw [take_one h3 (by simp) (by decide)]
        simp only
        rw [hnk]
        rfl
    rw [if_neg h2] at hr ⊢
    by_cases h3 : k = 3
    · rw [if_pos h3] at hr
      simp only [Bool.and_eq_true, beq_iff_eq, decide_eq_true_eq] at hr
      obtain ⟨⟨⟨⟨rfl, rfl⟩, rfl⟩, ho⟩, hlen⟩ := hr
      subst h3
      rw [if_neg (by decide), if_neg (by decide)]
      by_cases hm2 : opMany o = 2
      · rw [if_pos hm2]
        have ho2 : 1 ≤ o ∧ o ≤ 14 := by unfold opMany at hm2; split at hm2; assumption; split at hm2 <;> omega
        obtain ⟨a, c, rfl⟩ := list_two (hlen.trans hm2)
        obtain ⟨hA, bA⟩ := ih a (by simp)
        obtain ⟨hC, bC⟩ := ih c (by simp)
        refine ⟨fun ts q d b m hrest he hd => ?_, ⟨_, _, rfl, ⟨by decide, by decide, by decide⟩⟩⟩
        have hda : deepE a ≤ deepsE [a, c] := deep_le (by simp)
        have hdc : deepE c ≤ deepsE [a, c] := deep_le (by simp)
        simp only [List.isEmpty_cons, Bool.false_eq_true, if_false] at hd
        have h2 : Rest ts q (sg 40 :: (tkE a ++ opTok o :: (tkE c ++ sg 41 :: b :: m))) := by simpa using hrest
        have h3 := h2.tail
        have hin := read_two hA hC bA bC ho2 (d := d + 1) (by omega) (by omega) h3
        have hlast : Rest ts (q + 1 + (tkE a).length + 1 + (tkE c).length) (sg 41 :: b :: m) := h3.app.tail.app
        have := paren ⟨_, h2, by simp⟩ (by omega) hin hlast
        refine this.mono fun f hf => ?_
        rw [hf]
        simp [opE]
        omega
      · rw [if_neg hm2]
        have ho2 : 15 ≤ o ∧ o ≤ 20 := by
          unfold opMany at hm2; split at hm2
          · exact absurd rfl hm2
          · omega
        have hm1 : opMany o = 1 := by unfold opMany; rw [if_neg (by omega), if_pos (by omega)]
        obtain ⟨a, rfl⟩ := list_one (hlen.trans hm1)
        obtain ⟨hA, bA⟩ := ih a (by simp)
        have hda : deepE a ≤ deepsE [a] := deep_le (by simp)
        by_cases h19 : o = 19 ∨ o = 20
        · rw [if_pos h19]
          have hN : Named (opName o) ∧ knownF (opName o) = true ∧ callE (opName o) [a] = opE o [a] := by
            rcases h19 with rfl | rfl
            · exact ⟨⟨⟨108, [101, 110, 103, 116, 104], rfl, by decide, by decide, by decide⟩, rfl⟩, by decide, rfl⟩
            · exact ⟨⟨⟨97, [98, 115], rfl, by decide, by decide, by decide⟩, rfl⟩, by decide, rfl⟩
          refine ⟨fun ts q d b m hrest he hd => ?_, ⟨_, _, rfl, name_first hN.1⟩⟩
          simp only [List.isEmpty_cons, Bool.false_eq_true, if_false] at hd
          have := call_all hN.1 hN.2.1 (d := d) (dp := deepE a) (l := [a]) (by simp) (fun y hy => by simp at hy; subst hy; exact ⟨hA, bA⟩) (.inr rfl) (by omega) hrest
          refine this.mono fun f hf => ?_
          rw [hf, hN.2.2]
          rfl
        · rw [if_neg h19]
          by_cases h17 : o = 17 ∨ o = 18
          · rw [if_pos h17]
            refine ⟨fun ts q d b m hrest he hd => ?_, ⟨_, _, rfl, ⟨by decide, by decide, by decide⟩⟩⟩
            simp only [List.isEmpty_cons, Bool.false_eq_true, if_false] at hd
            have h2 : Rest ts q (sg 40 :: (tkE a ++ (nullTk o ++ sg 41 :: b :: m))) := by simpa using hrest
            have h3 := h2.tail
            have hin := read_null hA bA h17 (d := d + 1) (by omega) h3
            have := paren ⟨_, h2, by cases tkE a <;> simp [nullTk] <;> split <;> simp⟩ (by omega) hin h3.app.app
            refine this.mono fun f hf => ?_
            rw [hf]
            simp [opE]
            omega
          · rw [if_neg h17]
            have h15 : o = 15 ∨ o = 16 := by omega
            refine ⟨fun ts q d b m hrest he hd => ?_, ⟨_, _, rfl, ⟨by decide, by decide, by decide⟩⟩⟩
            rw [if_pos (by omega : o = 16 ∨ o = 15)] at hd
            simp only [List.isEmpty_cons, Bool.false_eq_true, if_false] at hd
            rcases h15 with rfl | rfl
            · have h2 : Rest ts q (sg 40 :: sg 45 :: (tkE a ++ sg 41 :: b :: m)) := by simpa [preTk] using hrest
              have h3 := h2.tail
              have hin := read_neg hA bA (d := d + 1) (by omega) h3
              have := paren ⟨_, h2, by simp⟩ (by omega) hin h3.tail.app
              refine this.mono fun f hf => ?_
              rw [hf]
              simp [opE]
              omega
            · have h2 : Rest ts q (sg 40 :: wd sNot :: (tkE a ++ sg 41 :: b :: m)) := by simpa [preTk] using hrest
              have h3 := h2.tail
              have hin := read_not hA bA (d := d + 1) (by omega) h3
              have := paren ⟨_, h2, by simp⟩ (by omega) hin h3.tail.app
              refine this.mono fun f hf => ?_
              rw [hf]
              simp [opE]
              omega
    rw [if_neg h3] at hr
    by_cases h4 : k = 4
    · rw [if_pos h4] at hr ⊢
      simp only [Bool.and_eq_true, beq_iff_eq, Bool.not_eq_true', List.isEmpty_eq_false_iff] at hr
      obtain ⟨⟨⟨⟨rfl, rfl⟩, rfl⟩, rfl⟩, hne⟩ := hr
      subst h4
      have hN : Named sCoalesce := ⟨⟨99, [111, 97, 108, 101, 115, 99, 101], rfl, by decide, by decide, by decide⟩, rfl⟩
      have hcall : callE sCoalesce args = .mk 4 (0, 0, []) [] [] 0 args := by
        unfold callE
        rw [if_neg (by decide), if_neg (by decide), if_pos rfl]
      refine ⟨fun ts q d b m hrest he hd => ?_, ⟨_, _, rfl, name_first hN⟩⟩
      have hd' : d + 1 + deepsE args ≤ 60 := by
        rw [if_neg (by simpa using hne)] at hd
        omega
      have := call_all hN (by decide) (d := d) (dp := deepsE args) hne (fun y hy => ⟨(ih y hy).1.mono (deep_le hy), (ih y hy).2⟩) (.inl rfl) hd' hrest
      refine this.mono fun f hf => ?_
      rw [hf, hcall]
    rw [if_neg h4] at hr ⊢
    by_cases h5 : k = 5
    · rw [if_pos h5] at hr ⊢
      simp only [Bool.and_eq_true, beq_iff_eq, Bool.or_eq_true, List.isEmpty_iff] at hr
      obtain ⟨⟨⟨⟨rfl, rfl⟩, rfl⟩, hs⟩, hl⟩ := hr
      subst h5
      obtain ⟨hN, hK⟩ := sum_named hs
      have hcall : ∀ l, callE nm l = .mk 5 (0, 0, []) [] nm 0 l := by
        have : nm = sCount ∨ nm = sSum ∨ nm = sMin ∨ nm = sMax := by simpa [sumNames] using hs
        intro l
        unfold callE
        rcases this with rfl | rfl | rfl | rfl <;> rw [if_neg (by decide), if_neg (by decide), if_neg (by decide)]
      refine ⟨fun ts q d b m hrest he hd => ?_, ⟨_, _, rfl, name_first hN⟩⟩
      rcases hl with hl | ⟨rfl, rfl⟩
      · obtain ⟨a, rfl⟩ := list_one hl
        obtain ⟨hA, bA⟩ := ih a (by simp)
        have hda : deepE a ≤ deepsE [a] := deep_le (by simp)
        simp only [List.isEmpty_cons, Bool.false_eq_true, if_false] at hd
        have := call_all hN hK (d := d) (dp := deepE a) (l := [a]) (by simp) (fun y hy => by simp at hy; subst hy; exact ⟨hA, bA⟩) (.inr rfl) (by omega) (by simpa [joinTk] using hrest)
        refine this.mono fun f hf => ?_
        rw [hf, hcall]
        rfl
      · have h2 : Rest ts q (wd sCount :: sg 40 :: sg 42 :: sg 41 :: b :: m) := hrest
        have h3 := h2.tail
        have h4 := h3.tail
        have h5 := h4.tail
        refine Ev.of fun f => ?_
        rw [alone_name hN h2 (by simp), take_one h3 (by simp) (by decide)]
        simp only
        unfold calledR
        rw [if_neg (by decide), if_pos rfl, take_yes h4 (by simp) (by decide), take_one h5 (by simp) (by decide)]
        simp only
        rw [hcall]
        rfl
    · rw [if_neg h5] at hr
      cases hr

theorem end_stops (j : Nat) (h : j < 7) : StopAt j (4, [], (0, 0, [])) := by
  rcases seven h with rfl | rfl | rfl | rfl | rfl | rfl | rfl <;> exact stop_of (by decide)
/-- THE EXPRESSION OF ITS TEXT IS IT. -/
theorem parse_text {x : Ex} (hc : checkB x = true) (hf : Fits x) (hd : deepE x ≤ 60) : ∃ ts, toksO (textE x) = some ts ∧ Ev fun f => runR (ts ++ [endTok (textE x).length]) f (.rd 0 0 0) = .good ts.length x := by
  have h1 := text_lx _ x (Nat.le_refl _) hc hf [] EndW.nil
  rw [List.append_nil, bt_nil] at h1
  simp only [Option.map_some, List.append_nil] at h1
  obtain ⟨ts, h2, h3⟩ := bt_some h1 (textE x).length
  refine ⟨ts, h2, ?_⟩
  obtain ⟨hA, hB⟩ := alone_all _ x (Nat.le_refl _) hc
  have hr : Rest (ts ++ [endTok (textE x).length]) 0 (tkE x ++ (4, [], (0, 0, [])) :: []) := by
    unfold Rest
    rw [List.map_append, h3]
    rfl
  have := level_alone hA hB (n := 0) (d := 0) (by omega) hr ⟨by decide, by decide⟩ (by omega) (fun j _ hj => end_stops j hj)
  have hlen : (tkE x).length = ts.length := by rw [← h3]; simp
  refine this.mono fun f hf => ?_
  rw [hf, hlen, Nat.zero_add]

end Go.Proofs.YtepkfkfedmbmnaaGreatDoor

namespace Go.Proofs.YtepkfkfedmbmnaaGreatDoor
open Go.RowKit
set_option maxRecDepth 100000

/-- An expression's eight cells. -/
def cells8 (x : Ex) (sv : Value) : List Value := [.int .i64 x.k, .int .i64 x.v.1, .int .i64 x.v.2.1, S x.v.2.2, S x.t, S x.n, .int .i64 x.o, sv]
theorem cells8_at {W : World} {b o : Nat} {x : Ex} {sv : Value} (h : ∀ i, i < 8 → W.cell? ⟨b, o + i, none⟩ = (cells8 x sv)[i]?) : At8 W b o x sv :=
  ⟨h 0 (by omega), h 1 (by omega), h 2 (by omega), h 3 (by omega), h 4 (by omega), h 5 (by omega), h 6 (by omega), h 7 (by omega)⟩
theorem at8_block {W : World} {b n : Nat} {cs : Array Value} {t : TypeId} {x : Ex} {sv : Value} (hb : W.heap[b]? = some (.cells cs t (0, 0))) (h : (cs.toList.drop n).take 8 = cells8 x sv) : At8 W b n x sv := by
  refine cells8_at fun i hi => ?_
  rw [Lib.cell_of_heap hb, ← h, List.getElem?_take, if_pos hi, List.getElem?_drop, Array.getElem?_toList]
theorem reads_one {W : World} {b : Nat} {t : TypeId} {x : Ex} {sv : Value} (cap : Nat) (hb : W.heap[b]? = some (.cells #[.int .i64 x.k, .int .i64 x.v.1, .int .i64 x.v.2.1, S x.v.2.2, S x.t, S x.n, .int .i64 x.o, sv] t (0, 0))) (hr : ReadsL W sv x.args) :
    ReadsL W (.slice (some ⟨b, 0, none⟩) 1 cap) [x] := by
  refine .mk (some ⟨b, 0, none⟩) cap [x] (fun _ => sv) (fun j y hy => ?_) (fun j y hy => ?_)
  · match j, hy with
    | 0, hy =>
      injection hy with hy
      subst hy
      exact ⟨b, 0, rfl, at8_block hb rfl⟩
    | j + 1, hy => simp at hy
  · match j, hy with
    | 0, hy =>
      injection hy with hy
      subst hy
      exact hr
    | j + 1, hy => simp at hy
theorem reads_two {W : World} {b : Nat} {t : TypeId} {x y : Ex} {sv sw : Value} (cap : Nat)
    (hb : W.heap[b]? = some (.cells #[.int .i64 x.k, .int .i64 x.v.1, .int .i64 x.v.2.1, S x.v.2.2, S x.t, S x.n, .int .i64 x.o, sv, .int .i64 y.k, .int .i64 y.v.1, .int .i64 y.v.2.1, S y.v.2.2, S y.t, S y.n, .int .i64 y.o, sw] t (0, 0)))
    (hr : ReadsL W sv x.args) (hs : ReadsL W sw y.args) : ReadsL W (.slice (some ⟨b, 0, none⟩) 2 cap) [x, y] := by
  refine .mk (some ⟨b, 0, none⟩) cap [x, y] (fun j => if j = 0 then sv else sw) (fun j z hz => ?_) (fun j z hz => ?_)
  · match j, hz with
    | 0, hz =>
      injection hz with hz
      subst hz
      exact ⟨b, 0, rfl, at8_block hb rfl⟩
    | 1, hz =>
      injection hz with hz
      subst hz
      exact ⟨b, 0, rfl, at8_block hb rfl⟩
    | j + 2, hz => simp at hz
  · match j, hz with
    | 0, hz =>
      injection hz with hz
      subst hz
      exact hr
    | 1, hz =>
      injection hz with hz
      subst hz
      exact hs
    | j + 2, hz => simp at hz
theorem readsE_op {W : World} {sv : Value} {l : List Ex} (o : Int) (h : ReadsL W sv l) : ReadsE W (opE o l) (EV 3 (0, 0, []) [] [] o sv) := ⟨sv, rfl, h⟩
theorem readsE_zero (W : World) : ReadsE W zeroE (EV 0 (0, 0, []) [] [] 0 (.slice none 0 0)) := ⟨_, rfl, ReadsL.nil W none 0⟩
theorem readsE_val (W : World) (v : Int × Int × List UInt8) : ReadsE W (valE v) (EV 1 v [] [] 0 (.slice none 0 0)) := ⟨_, rfl, ReadsL.nil W none 0⟩
theorem readsE_col (W : World) (t n : List UInt8) : ReadsE W (colE t n) (EV 2 (0, 0, []) t n 0 (.slice none 0 0)) := ⟨_, rfl, ReadsL.nil W none 0⟩

/-- A row of expressions, each with its arguments' slice. -/
def rowE (l : List (Ex × Value)) : List Value := l.flatMap fun p => cells8 p.1 p.2
theorem rowE_length (l : List (Ex × Value)) : (rowE l).length = l.length * 8 := by
  induction l with
  | nil => rfl
  | cons p l ih => simp [rowE, cells8] at ih ⊢; omega
theorem rowE_snoc (l : List (Ex × Value)) (x : Ex) (sv : Value) : rowE (l ++ [(x, sv)]) = rowE l ++ cells8 x sv := by simp [rowE]
theorem rowE_at (l : List (Ex × Value)) : ∀ (j : Nat) (p : Ex × Value), l[j]? = some p → ∀ i, i < 8 → (rowE l)[j * 8 + i]? = (cells8 p.1 p.2)[i]? := by
  induction l with
  | nil => intro j p h; simp at h
  | cons q l ih =>
    intro j p h i hi
    have e : rowE (q :: l) = cells8 q.1 q.2 ++ rowE l := by simp [rowE]
    rw [e]
    match j, h with
    | 0, h =>
      injection h with h
      subst h
      rw [List.getElem?_append_left (by simp [cells8]; omega)]
      simp
    | j + 1, h =>
      have := ih j p (by simpa using h) i hi
      rw [List.getElem?_append_right (by simp [cells8]; omega)]
      rw [← this]
      congr 1
      simp [cells8]
      omega
/-- A row that the call owns reads as its expressions. -/
theorem reads_own {W : World} {base g cap : Nat} {l : List (Ex × Value)} (h : W.ownsRow base 30 8 (.slice (some ⟨g, 0, none⟩) l.length cap) l.length (rowE l)) (hr : ∀ p ∈ l, ReadsL W p.2 p.1.args) : ReadsL W (.slice (some ⟨g, 0, none⟩) l.length cap) (l.map (·.1)) := by
  have hm : l.length = (l.map (·.1)).length := by simp
  rw [hm]
  refine .mk (some ⟨g, 0, none⟩) cap (l.map (·.1)) (fun j => ((l[j]?).map (·.2)).getD (.slice none 0 0)) (fun j x hx => ?_) (fun j x hx => ?_)
  · rw [List.getElem?_map] at hx
    obtain ⟨p, hp, rfl⟩ := Option.map_eq_some_iff.1 hx
    refine ⟨g, 0, rfl, ?_⟩
    rw [hp]
    refine cells8_at fun i hi => ?_
    have hat := rowE_at l j p hp i hi
    have hlt := (List.getElem?_eq_some_iff.1 hp).1
    have hc := h.cellAt (j * 8 + i) (by omega)
    rw [Nat.zero_add]
    exact hc.trans hat
  · rw [List.getElem?_map] at hx
    obtain ⟨p, hp, rfl⟩ := Option.map_eq_some_iff.1 hx
    rw [hp]
    exact hr p (List.mem_of_getElem? hp)

end Go.Proofs.YtepkfkfedmbmnaaGreatDoor

namespace Go.Proofs.YtepkfkfedmbmnaaGreatDoor
open Go.RowKit
set_option maxRecDepth 100000

theorem bind_mono {r r' : Res} {g g' : Nat → Ex → Res} (h1 : r ≠ .out → r' = r) (h2 : ∀ k x, g k x ≠ .out → g' k x = g k x) (hn : r.bind g ≠ .out) : r'.bind g' = r.bind g := by
  cases r with
  | out => exact absurd rfl hn
  | bad e => rw [h1 (by simp)]; rfl
  | good k x => rw [h1 (by simp)]; exact h2 k x hn
theorem deeper_mono {r r' : Res} {d : Nat} (h : r ≠ .out → r' = r) (hn : deeperR d r ≠ .out) : deeperR d r' = deeperR d r := by
  unfold deeperR at hn ⊢
  split
  · rename_i hd
    rw [if_pos hd] at hn
    exact h hn
  · rfl
theorem step_mono {ts : List Tok} {run run' : Job → Res} (h : ∀ j, run j ≠ .out → run' j = run j) (j : Job) (hn : stepR ts run j ≠ .out) : stepR ts run' j = stepR ts run j := by
  have hcalled : ∀ nm k d, calledR ts run nm k d ≠ .out → calledR ts run' nm k d = calledR ts run nm k d := by
    intro nm k d hn
    unfold calledR at hn ⊢
    split
    · rfl
    · rename_i h1
      rw [if_neg h1] at hn
      split
      · rename_i h2
        rw [if_pos h2] at hn
        cases ht : takeK ts k [[42], [41]] with
        | some k' => rfl
        | none =>
          rw [ht] at hn
          exact h _ hn
      · rename_i h2
        rw [if_neg h2] at hn
        exact h _ hn
  cases j with
  | lp n k d x =>
    rw [step_lp] at hn ⊢
    rw [step_lp]
    cases ht : takenK ts k (levelOps n) with
    | none => rfl
    | some p =>
      rw [ht] at hn
      exact bind_mono (h _) (fun _ _ => h _) hn
  | args nm k d acc =>
    rw [step_args] at hn ⊢
    rw [step_args]
    refine bind_mono (deeper_mono (h _)) (fun k1 x hn2 => ?_) hn
    cases ht : (if nm = sCoalesce then takeK ts k1 [[44]] else none) with
    | none => rfl
    | some k2 =>
      rw [ht] at hn2
      exact h _ hn2
  | rd n k d =>
    by_cases h2 : n = 2
    · subst h2
      rw [step_2] at hn ⊢
      rw [step_2]
      cases ht : takeK ts k [sNot] with
      | none =>
        rw [ht] at hn
        exact h _ hn
      | some k' =>
        rw [ht] at hn
        exact bind_mono (deeper_mono (h _)) (fun _ _ _ => rfl) hn
    by_cases h7 : n = 7
    · subst h7
      rw [step_7] at hn ⊢
      rw [step_7]
      cases ht : takeK ts k [[45]] with
      | some k' =>
        rw [ht] at hn
        exact bind_mono (deeper_mono (h _)) (fun _ _ _ => rfl) hn
      | none =>
        rw [ht] at hn
        simp only at hn ⊢
        unfold aloneR at hn ⊢
        cases hx : ts[k]? with
        | none => rfl
        | some x =>
          rw [hx] at hn
          simp only at hn ⊢
          split
          · rfl
          · rename_i hk
            rw [if_neg hk] at hn
            cases hc : constR ts k [(sFalse, 0), (sTrue, 1), (sNull, 2)] with
            | some p => rfl
            | none =>
              rw [hc] at hn
              simp only at hn ⊢
              cases hp : takeK ts k [[40]] with
              | some k' =>
                rw [hp] at hn
                exact bind_mono (deeper_mono (h _)) (fun _ _ _ => rfl) hn
              | none =>
                rw [hp] at hn
                simp only at hn ⊢
                cases hm : nameK ts k with
                | none => rfl
                | some p =>
                  rw [hm] at hn
                  obtain ⟨nm, k1⟩ := p
                  simp only at hn ⊢
                  cases hq : takeK ts k1 [[40]] with
                  | some k2 =>
                    rw [hq] at hn
                    exact hcalled _ _ _ hn
                  | none => rfl
    by_cases h3 : n = 3
    · subst h3
      rw [step_3] at hn ⊢
      rw [step_3]
      unfold cmpR at hn ⊢
      refine bind_mono (h _) (fun k1 x hn2 => ?_) hn
      cases ht : takenK ts k1 (levelOps 3) with
      | none => rfl
      | some p =>
        rw [ht] at hn2
        exact bind_mono (h _) (fun _ _ _ => rfl) hn2
    · rw [step_n _ _ _ _ h2 h7 h3] at hn ⊢
      rw [step_n _ _ _ _ h2 h7 h3]
      exact bind_mono (h _) (fun _ _ => h _) hn
theorem run_succ (ts : List Tok) : ∀ (f : Nat) (j : Job), runR ts f j ≠ .out → runR ts (f + 1) j = runR ts f j
  | 0, _j, h => absurd rfl h
  | f + 1, j, h => step_mono (run_succ ts f) j h
theorem run_more {ts : List Tok} {f : Nat} {j : Job} (h : runR ts f j ≠ .out) : ∀ (g : Nat), runR ts (f + g) j = runR ts f j
  | 0 => rfl
  | g + 1 => by
    have ih := run_more h g
    show runR ts (f + g + 1) j = _
    rw [run_succ ts (f + g) j (by rw [ih]; exact h), ih]
/-- What is read in enough steps is what is read. -/
theorem run_ev {ts : List Tok} {f : Nat} {j : Job} {r : Res} (h : Ev fun g => runR ts g j = r) (hf : runR ts f j ≠ .out) : runR ts f j = r := by
  obtain ⟨f0, h⟩ := h
  rw [← run_more hf f0]
  exact h (f + f0) (by omega)

theorem tok_ok {s : List UInt8} {ts : List Tok} (_h : toksO s = some ts) : TokOK (ts ++ [endTok s.length]) := by
  intro k x hx hk
  have : k = ts.length := by simpa using hk
  subst this
  simp at hx
  subst hx
  rfl

/-- The tokens of a text, the end's too. -/
def tl (s : List UInt8) (ts : List Tok) : List Tok := ts ++ [endTok s.length]
/-- Steps that are enough. -/
def steps (ts : List Tok) : Nat := ts.length * 20 + 100
/-- What reading from a place comes to. -/
def readR (ts : List Tok) (k : Nat) : Res := runR ts (steps ts) (.rd 0 k 0)
theorem readR_ends {ts : List Tok} (hT : TokOK ts) {k : Nat} (hk : k < ts.length) : Ends ts (.rd 0 k 0) (readR ts k) :=
  run_ends hT _ _ hk (by show 0 ≤ 7; omega) (by simp only [Job.most, Job.at, Job.rank, steps]; omega)
/-- The expression of a text, and an error. -/
def parseX (s : List UInt8) : Int × Ex :=
  if 4000 < s.length then (3, zeroE) else match toksO s with
    | none => (250, zeroE)
    | some ts => match readR (ts ++ [endTok s.length]) 0 with
      | .out => (0, zeroE)
      | .bad c => (c, zeroE)
      | .good k x => if ((ts ++ [endTok s.length])[k]?).map (·.k) = some 4 then (0, x) else (261, zeroE)
theorem parseX_text {x : Ex} (hc : checkB x = true) (hf : Fits x) (hd : deepE x ≤ 60) (hl : (textE x).length ≤ 4000) : parseX (textE x) = (0, x) := by
  obtain ⟨ts, h1, h2⟩ := parse_text hc hf hd
  have he := readR_ends (tok_ok h1) (k := 0) (by simp)
  have hr : readR (ts ++ [endTok (textE x).length]) 0 = .good ts.length x := run_ev h2 (by intro e; unfold readR at he; rw [e] at he; exact he)
  unfold parseX
  rw [if_neg (by omega), h1]
  simp only
  rw [hr]
  simp [endTok]

end Go.Proofs.YtepkfkfedmbmnaaGreatDoor

