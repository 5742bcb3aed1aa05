/- Tokens, in plain words: where one ends, what stands between two; a text's tokens. -/
import Derived.Lib.Hide
namespace Go.Proofs.YtdhaddldmooniaaGreatDoor

def letterB (c : UInt8) : Bool := (97 ≤ c && c ≤ 122) || c == 95
def digitB (c : UInt8) : Bool := 48 ≤ c && c ≤ 57
def wordB (c : UInt8) : Bool := letterB c || digitB c
def blankB (c : UInt8) : Bool := c == 32 || c == 9 || c == 10 || c == 13
/-- How many at the beginning are such. -/
def runB (p : UInt8 → Bool) (l : List UInt8) : Nat := (l.takeWhile p).length

theorem runB_nil (p : UInt8 → Bool) : runB p [] = 0 := rfl
theorem runB_cons (p : UInt8 → Bool) (c : UInt8) (l : List UInt8) : runB p (c :: l) = if p c then runB p l + 1 else 0 := by
  unfold runB; rw [List.takeWhile_cons]; split <;> simp
theorem runB_le (p : UInt8 → Bool) (l : List UInt8) : runB p l ≤ l.length := by
  induction l with
  | nil => simp [runB_nil]
  | cons c r ih => rw [runB_cons]; split <;> simp <;> omega

/-- What begins here is none of these. -/
def Stops (p : UInt8 → Bool) (y : List UInt8) : Prop := ∀ c, y.head? = some c → p c = false
theorem runB_app {p : UInt8 → Bool} {t y : List UInt8} (h : runB p (t ++ y) = t.length) : (∀ c ∈ t, p c = true) ∧ Stops p y := by
  induction t with
  | nil =>
    refine ⟨by simp, ?_⟩
    intro c hc
    cases y with
    | nil => simp at hc
    | cons d y =>
      simp at hc; subst hc
      simp only [List.nil_append, List.length_nil, runB_cons] at h
      split at h
      · omega
      · rename_i hp; simpa using hp
  | cons d t ih =>
    simp only [List.cons_append, List.length_cons, runB_cons] at h
    split at h
    · rename_i hp
      obtain ⟨h1, h2⟩ := ih (by omega)
      exact ⟨by intro c hc; rcases List.mem_cons.1 hc with rfl | hc; exact hp; exact h1 c hc, h2⟩
    · omega
theorem runB_of {p : UInt8 → Bool} {t y : List UInt8} (h : ∀ c ∈ t, p c = true) (hy : Stops p y) : runB p (t ++ y) = t.length := by
  induction t with
  | nil =>
    cases y with
    | nil => rfl
    | cons d y => simp only [List.nil_append, runB_cons, List.length_nil]; rw [hy d rfl]; rfl
  | cons d t ih =>
    simp only [List.cons_append, List.length_cons, runB_cons]
    rw [h d (by simp), if_pos rfl, ih (fun c hc => h c (by simp [hc]))]
theorem runB_drop (p : UInt8 → Bool) (l : List UInt8) : Stops p (l.drop (runB p l)) := by
  induction l with
  | nil => intro c hc; simp [runB_nil] at hc
  | cons d r ih =>
    rw [runB_cons]
    split
    · simpa using ih
    · rename_i hp; intro c hc; simp at hc; subst hc; simpa using hp
theorem runB_take (p : UInt8 → Bool) (l : List UInt8) : ∀ c ∈ l.take (runB p l), p c = true := by
  induction l with
  | nil => simp
  | cons d r ih =>
    rw [runB_cons]
    split
    · rename_i hp; intro c hc; simp at hc; rcases hc with rfl | hc; exact hp; exact ih c hc
    · simp

/-- How many bytes there are up to the closing quote (itself too); quotes come in twos. -/
def qlen : List UInt8 → Option Nat
  | [] => none
  | [c] => if c = 39 then some 1 else none
  | c :: d :: r => if c = 39 then (if d = 39 then (qlen r).map (· + 2) else some 1) else (qlen (d :: r)).map (· + 1)

theorem qlen_cons_ne {c : UInt8} (h : c ≠ 39) (r : List UInt8) : qlen (c :: r) = (qlen r).map (· + 1) := by
  cases r with
  | nil => simp [qlen, h]
  | cons d r => simp [qlen, h]
theorem qlen_pair (r : List UInt8) : qlen (39 :: 39 :: r) = (qlen r).map (· + 2) := by simp [qlen]
theorem qlen_end {r : List UInt8} (h : r.head? ≠ some 39) : qlen (39 :: r) = some 1 := by
  cases r with
  | nil => simp [qlen]
  | cons d r => simp at h; simp [qlen, h]
theorem qlen_le : ∀ (n : Nat) (l : List UInt8), l.length ≤ n → ∀ k, qlen l = some k → 1 ≤ k ∧ k ≤ l.length := by
  intro n
  induction n with
  | zero => intro l hl k h; obtain rfl : l = [] := by simpa using hl
            simp [qlen] at h
  | succ n ih =>
    intro l hl k h
    match l, hl with
    | [], _ => simp [qlen] at h
    | [c], _ => simp [qlen] at h; simp; omega
    | c :: d :: r, hl =>
      simp only [List.length_cons] at hl
      by_cases hc : c = 39
      · subst hc
        by_cases hd : d = 39
        · subst hd
          rw [qlen_pair] at h
          obtain ⟨m, hm, rfl⟩ := Option.map_eq_some_iff.1 h
          have := ih r (by omega) m hm
          simp; omega
        · rw [qlen_end (by simpa using hd)] at h
          simp at h; simp; omega
      · rw [qlen_cons_ne hc] at h
        obtain ⟨m, hm, rfl⟩ := Option.map_eq_some_iff.1 h
        have := ih (d :: r) (by simp; omega) m hm
        simp at this ⊢; omega
theorem qlen_ext : ∀ (n : Nat) (t : List UInt8), t.length ≤ n → ∀ y x, qlen (t ++ y) = some t.length → x.head? ≠ some 39 → y.head? ≠ some 39 ∧ qlen (t ++ x) = some t.length := by
  intro n
  induction n with
  | zero =>
    intro t ht y x h hx
    obtain rfl : t = [] := by simpa using ht
    have := qlen_le _ _ (Nat.le_refl _) _ h
    simp at this
  | succ n ih =>
    intro t ht y x h hx
    match t, ht with
    | [], _ => have := qlen_le _ _ (Nat.le_refl _) _ h; simp at this
    | [c], _ =>
      by_cases hc : c = 39
      · subst hc
        refine ⟨?_, by simpa using qlen_end hx⟩
        intro hy
        cases y with
        | nil => simp at hy
        | cons d y =>
          simp at hy; subst hy
          simp only [List.cons_append, List.nil_append, qlen_pair, List.length_cons, List.length_nil] at h
          obtain ⟨m, hm, hm'⟩ := Option.map_eq_some_iff.1 h
          omega
      · simp only [List.cons_append, List.nil_append, List.length_cons, List.length_nil] at h
        rw [qlen_cons_ne hc] at h
        obtain ⟨m, hm, hm'⟩ := Option.map_eq_some_iff.1 h
        have := qlen_le _ _ (Nat.le_refl _) _ hm
        omega
    | c :: d :: r, ht =>
      simp only [List.length_cons] at ht
      by_cases hc : c = 39
      · subst hc
        by_cases hd : d = 39
        · subst hd
          simp only [List.cons_append, qlen_pair, List.length_cons] at h ⊢
          obtain ⟨m, hm, hm'⟩ := Option.map_eq_some_iff.1 h
          have := ih r (by omega) y x (by rw [hm]; congr 1; omega) hx
          exact ⟨this.1, by rw [this.2]; simp⟩
        · simp only [List.cons_append] at h
          rw [qlen_end (by simpa using hd)] at h
          simp at h
      · simp only [List.cons_append, List.length_cons] at h ⊢
        rw [qlen_cons_ne hc] at h ⊢
        obtain ⟨m, hm, hm'⟩ := Option.map_eq_some_iff.1 h
        have := ih (d :: r) (by simp; omega) y x (by rw [List.cons_append, hm]; congr 1; simp; omega) hx
        refine ⟨this.1, ?_⟩
        rw [← List.cons_append, this.2]; simp

/-- How long the sign is that begins so; 0: none does. -/
def slen (c : UInt8) (h : Option UInt8) : Nat :=
  if c = 60 then (if h = some 62 ∨ h = some 61 then 2 else 1)
  else if c = 62 then (if h = some 61 then 2 else 1)
  else if c = 124 then (if h = some 124 then 2 else 0)
  else if c ∈ ([40, 41, 44, 46, 59, 42, 43, 45, 47, 37, 61] : List UInt8) then 1 else 0

/-- A token's kind and how long it is. -/
def cut1 : List UInt8 → Option (Int × Nat)
  | [] => none
  | c :: r =>
    if letterB c ∧ ¬ (c = 120 ∧ r.head? = some 39) then (if runB wordB r + 1 ≤ 30 then some (1, runB wordB r + 1) else none)
    else if c = 39 then (qlen r).map fun n => (2, n + 1)
    else if c = 120 then (qlen (r.drop 1)).map fun n => (2, n + 2)
    else if digitB c then (if ((r.drop (runB digitB r)).head?.map letterB) = some true then none else some (2, runB digitB r + 1))
    else if slen c r.head? = 0 then none else some (3, slen c r.head?)

theorem cut1_cons (c : UInt8) (r : List UInt8) : cut1 (c :: r) =
    if letterB c ∧ ¬ (c = 120 ∧ r.head? = some 39) then (if runB wordB r + 1 ≤ 30 then some (1, runB wordB r + 1) else none)
    else if c = 39 then (qlen r).map fun n => (2, n + 1)
    else if c = 120 then (qlen (r.drop 1)).map fun n => (2, n + 2)
    else if digitB c then (if ((r.drop (runB digitB r)).head?.map letterB) = some true then none else some (2, runB digitB r + 1))
    else if slen c r.head? = 0 then none else some (3, slen c r.head?) := rfl
theorem slen_le (c : UInt8) (r : List UInt8) : slen c r.head? ≤ (c :: r).length := by
  unfold slen
  cases r with
  | nil => simp; split <;> (try split) <;> (try split) <;> (try split) <;> omega
  | cons d r => simp; split <;> (try split) <;> (try split) <;> (try split) <;> (try split) <;> omega
theorem cut1_le {s : List UInt8} {k : Int} {n : Nat} (h : cut1 s = some (k, n)) : 1 ≤ n ∧ n ≤ s.length ∧ (k = 1 ∨ k = 2 ∨ k = 3) := by
  match s, h with
  | c :: r, h =>
    rw [cut1_cons] at h
    split at h
    · split at h
      · injection h with h; injection h with h1 h2
        have := runB_le wordB r
        simp; omega
      · cases h
    · split at h
      · obtain ⟨m, hm, e⟩ := Option.map_eq_some_iff.1 h
        injection e with h1 h2
        have := qlen_le _ _ (Nat.le_refl _) _ hm
        simp; omega
      · split at h
        · obtain ⟨m, hm, e⟩ := Option.map_eq_some_iff.1 h
          injection e with h1 h2
          have := qlen_le _ _ (Nat.le_refl _) _ hm
          simp at this ⊢; omega
        · split at h
          · split at h
            · cases h
            · injection h with h; injection h with h1 h2
              have := runB_le digitB r
              simp; omega
          · split at h
            · cases h
            · injection h with h; injection h with h1 h2
              have := slen_le c r
              simp at this ⊢; omega

/-- What may stand behind a token in place of y. -/
def Apart (y x : List UInt8) : Prop := x.head? = y.head? ∨ x.head? = some 32 ∨ x.head? = some 10
theorem Apart.stops {p : UInt8 → Bool} {y x : List UInt8} (h : Apart y x) (h32 : p 32 = false) (h10 : p 10 = false) (hy : Stops p y) : Stops p x := by
  intro c hc
  rcases h with h | h | h
  · exact hy c (h ▸ hc)
  · rw [h] at hc; injection hc with hc; subst hc; exact h32
  · rw [h] at hc; injection hc with hc; subst hc; exact h10
theorem Apart.ne {c : UInt8} {y x : List UInt8} (h : Apart y x) (h32 : c ≠ 32) (h10 : c ≠ 10) (hy : y.head? ≠ some c) : x.head? ≠ some c := by
  rcases h with h | h | h
  · rw [h]; exact hy
  · rw [h]; simp; exact Ne.symm h32
  · rw [h]; simp; exact Ne.symm h10

theorem cut1_ext {t y x : List UInt8} {k : Int} (h : cut1 (t ++ y) = some (k, t.length)) (ha : Apart y x) : cut1 (t ++ x) = some (k, t.length) := by
  have hle := cut1_le h
  match t, h, hle with
  | [], _, hle => simp at hle
  | c :: t, h, hle =>
    clear hle
    simp only [List.cons_append, List.length_cons] at h ⊢
    rw [cut1_cons] at h ⊢
    split at h
    · rename_i hc
      obtain ⟨hl, hx⟩ := hc
      split at h
      · rename_i h30
        injection h with h; injection h with h1 h2
        have hr : runB wordB (t ++ y) = t.length := by omega
        obtain ⟨ht, hy⟩ := runB_app hr
        have hr' := runB_of ht (ha.stops (by decide) (by decide) hy)
        have hx' : ¬ (c = 120 ∧ (t ++ x).head? = some 39) := by
          rintro ⟨rfl, h39⟩
          refine hx ⟨rfl, ?_⟩
          cases t with
          | nil => exact absurd h39 (ha.ne (by decide) (by decide) (fun e => hx ⟨rfl, e⟩))
          | cons d t => simpa using h39
        rw [if_pos ⟨hl, hx'⟩, hr', if_pos (by omega)]
        simp [h1]
      · cases h
    · rename_i hc
      have hc' : ¬ (letterB c = true ∧ ¬ (c = 120 ∧ (t ++ x).head? = some 39)) := by
        rintro ⟨hl, hx⟩
        have h2 : c = 120 ∧ (t ++ y).head? = some 39 := by
          by_cases hh : c = 120 ∧ (t ++ y).head? = some 39
          · exact hh
          · exact absurd ⟨hl, hh⟩ hc
        obtain ⟨rfl, hh⟩ := h2
        refine hx ⟨rfl, ?_⟩
        cases t with
        | nil =>
          rw [if_neg (by decide), if_pos rfl] at h
          obtain ⟨m, hm, e⟩ := Option.map_eq_some_iff.1 h
          injection e with h1 h2
          simp at h2
        | cons d t => simpa using hh
      rw [if_neg hc']
      split at h
      · rename_i h39
        rw [if_pos h39]
        obtain ⟨m, hm, e⟩ := Option.map_eq_some_iff.1 h
        injection e with h1 h2
        have hm' : qlen (t ++ y) = some t.length := by rw [hm]; congr 1; omega
        have hy : y.head? ≠ some 39 := (qlen_ext _ t (Nat.le_refl _) y [] hm' (by simp)).1
        rw [(qlen_ext _ t (Nat.le_refl _) y x hm' (ha.ne (by decide) (by decide) hy)).2]
        simp [h1]
      · rename_i h39
        rw [if_neg h39]
        split at h
        · rename_i h120
          rw [if_pos h120]
          obtain ⟨m, hm, e⟩ := Option.map_eq_some_iff.1 h
          injection e with h1 h2
          have := qlen_le _ _ (Nat.le_refl _) _ hm
          cases t with
          | nil => simp at h2
          | cons d t =>
            simp only [List.cons_append, List.drop_succ_cons, List.drop_zero, List.length_cons] at hm h2 ⊢
            have hm' : qlen (t ++ y) = some t.length := by rw [hm]; congr 1; omega
            have hy : y.head? ≠ some 39 := (qlen_ext _ t (Nat.le_refl _) y [] hm' (by simp)).1
            rw [(qlen_ext _ t (Nat.le_refl _) y x hm' (ha.ne (by decide) (by decide) hy)).2]
            simp [h1]
        · rename_i h120
          rw [if_neg h120]
          split at h
          · rename_i hd
            rw [if_pos hd]
            split at h
            · cases h
            · rename_i hl
              injection h with h; injection h with h1 h2
              have hr : runB digitB (t ++ y) = t.length := by omega
              obtain ⟨ht, hy⟩ := runB_app hr
              have hr' := runB_of ht (ha.stops (by decide) (by decide) hy)
              rw [hr] at hl
              rw [hr', List.drop_left']
              · rw [List.drop_left' rfl] at hl
                have hl' : Stops letterB y := by
                  intro e he
                  rw [he] at hl
                  simpa using hl
                have hx := ha.stops (p := letterB) (by decide) (by decide) hl'
                rw [if_neg]
                · simp [h1]
                · intro e
                  obtain ⟨d, hd1, hd2⟩ := Option.map_eq_some_iff.1 e
                  rw [hx d hd1] at hd2
                  cases hd2
              · rfl
          · rename_i hd
            rw [if_neg hd]
            split at h
            · cases h
            · rename_i hs
              injection h with h; injection h with h1 h2
              cases t with
              | nil =>
                simp only [List.nil_append, List.length_nil] at h2 hs ⊢
                have e : slen c x.head? = 1 := by
                  rcases ha with ha | ha | ha
                  · rw [ha]; omega
                  · rw [ha]
                    unfold slen at h2 ⊢
                    split
                    · simp
                    · rename_i h60; rw [if_neg h60] at h2
                      split
                      · simp
                      · rename_i h62; rw [if_neg h62] at h2
                        split
                        · rename_i h124; rw [if_pos h124] at h2; split at h2 <;> omega
                        · rename_i h124; rw [if_neg h124] at h2; exact h2
                  · rw [ha]
                    unfold slen at h2 ⊢
                    split
                    · simp
                    · rename_i h60; rw [if_neg h60] at h2
                      split
                      · simp
                      · rename_i h62; rw [if_neg h62] at h2
                        split
                        · rename_i h124; rw [if_pos h124] at h2; split at h2 <;> omega
                        · rename_i h124; rw [if_neg h124] at h2; exact h2
                rw [e, if_neg (by omega)]
                simp [h1]
              | cons d t =>
                have e : slen c (d :: t ++ x).head? = slen c (d :: t ++ y).head? := rfl
                rw [e, if_neg hs, h2, ← h1]

/-- What is left behind blanks and remarks (true: within a remark). -/
def skipM : Bool → List UInt8 → List UInt8
  | _, [] => []
  | true, c :: r => if c = 10 then skipM false r else skipM true r
  | false, c :: r => if blankB c then skipM false r else if c = 45 ∧ r.head? = some 45 then skipM true r else c :: r

theorem skip_nil (b : Bool) : skipM b [] = [] := by cases b <;> rfl
theorem skip_t (c : UInt8) (r : List UInt8) : skipM true (c :: r) = if c = 10 then skipM false r else skipM true r := rfl
theorem skip_f (c : UInt8) (r : List UInt8) : skipM false (c :: r) = if blankB c then skipM false r else if c = 45 ∧ r.head? = some 45 then skipM true r else c :: r := rfl
theorem skipM_le : ∀ (b : Bool) (s : List UInt8), (skipM b s).length ≤ s.length := by
  intro b s
  induction s generalizing b with
  | nil => cases b <;> simp [skipM]
  | cons c r ih =>
    cases b
    · unfold skipM
      split
      · have := ih false; simp; omega
      · split
        · have := ih true; simp; omega
        · simp
    · unfold skipM
      split
      · have := ih false; simp; omega
      · have := ih true; simp; omega
theorem skipM_suffix : ∀ (b : Bool) (s : List UInt8), skipM b s = s.drop (s.length - (skipM b s).length) := by
  intro b s
  induction s generalizing b with
  | nil => cases b <;> simp [skipM]
  | cons c r ih =>
    have l1 := skipM_le true r
    have l0 := skipM_le false r
    cases b
    · unfold skipM
      split
      · rw [List.length_cons, show r.length + 1 - (skipM false r).length = (r.length - (skipM false r).length) + 1 by omega, List.drop_succ_cons]
        exact ih false
      · split
        · rw [List.length_cons, show r.length + 1 - (skipM true r).length = (r.length - (skipM true r).length) + 1 by omega, List.drop_succ_cons]
          exact ih true
        · simp
    · unfold skipM
      split
      · rw [List.length_cons, show r.length + 1 - (skipM false r).length = (r.length - (skipM false r).length) + 1 by omega, List.drop_succ_cons]
        exact ih false
      · rw [List.length_cons, show r.length + 1 - (skipM true r).length = (r.length - (skipM true r).length) + 1 by omega, List.drop_succ_cons]
        exact ih true
theorem skipM_blanks (s : List UInt8) : skipM false s = skipM false (s.drop (runB blankB s)) := by
  induction s with
  | nil => rfl
  | cons c r ih =>
    rw [runB_cons]
    split
    · rename_i hp
      rw [List.drop_succ_cons, ← ih]
      conv => lhs; unfold skipM
      rw [if_pos hp]
    · simp
theorem skipM_stays {s : List UInt8} (h : Stops blankB s) (h2 : ¬ (s.head? = some 45 ∧ s[1]? = some 45)) : skipM false s = s := by
  cases s with
  | nil => rfl
  | cons c r =>
    unfold skipM
    rw [if_neg (by rw [h c rfl]; decide), if_neg]
    rintro ⟨rfl, e⟩
    refine h2 ⟨rfl, ?_⟩
    cases r with
    | nil => simp at e
    | cons d r => simpa using e
theorem skipM_in_none {s : List UInt8} (h : ∀ c ∈ s, c ≠ 10) : skipM true s = [] := by
  induction s with
  | nil => rfl
  | cons c r ih => unfold skipM; rw [if_neg (h c (by simp))]; exact ih fun d hd => h d (by simp [hd])
theorem skipM_in {s : List UInt8} (n : Nat) (h : s[n]? = some 10) (hn : ∀ c ∈ s.take n, c ≠ 10) : skipM true s = skipM false (s.drop n) := by
  induction s generalizing n with
  | nil => simp at h
  | cons c r ih =>
    rw [skip_t]
    cases n with
    | zero =>
      simp at h; subst h
      rw [if_pos rfl, List.drop_zero, skip_f, if_pos (by decide)]
    | succ n =>
      rw [if_neg (hn c (by simp)), ih n (by simpa using h) (fun d hd => hn d (by simp [hd]))]
      simp
theorem skipM_remark {s : List UInt8} (h : s.head? = some 45 ∧ s[1]? = some 45) : skipM false s = skipM true s := by
  match s, h with
  | c :: d :: r, h =>
    simp at h
    obtain ⟨rfl, rfl⟩ := h
    simp [skipM, blankB]
  | [c], h => simp at h

/-- Blanks and remarks of a text that another follows behind a new line. -/
theorem skipM_line : ∀ (b : Bool) (s r : List UInt8), skipM b (s ++ 10 :: r) = if skipM b s = [] then skipM false r else skipM b s ++ 10 :: r := by
  intro b s r
  induction s generalizing b with
  | nil =>
    rw [skip_nil, if_pos rfl, List.nil_append]
    cases b
    · rw [skip_f, if_pos (by decide)]
    · rw [skip_t, if_pos rfl]
  | cons c s ih =>
    rw [List.cons_append]
    cases b
    · rw [skip_f, skip_f]
      by_cases hb : blankB c = true
      · rw [if_pos hb, if_pos hb]; exact ih false
      · rw [if_neg hb, if_neg hb]
        have e : (s ++ 10 :: r).head? = some 45 ↔ s.head? = some 45 := by cases s <;> simp
        by_cases h2 : c = 45 ∧ s.head? = some 45
        · rw [if_pos h2, if_pos (by rw [e]; exact h2)]; exact ih true
        · rw [if_neg h2, if_neg (by rw [e]; exact h2), if_neg (by simp)]
          simp
    · rw [skip_t, skip_t]
      by_cases h10 : c = 10
      · rw [if_pos h10, if_pos h10]; exact ih false
      · rw [if_neg h10, if_neg h10]; exact ih true

theorem cut1_starts {s : List UInt8} {k : Int} {n : Nat} (h : cut1 s = some (k, n)) : Stops blankB s := by
  intro c hc
  match s, h with
  | d :: r, h =>
    simp at hc; subst hc
    cases hb : blankB d with
    | false => rfl
    | true =>
      have hd : d = 32 ∨ d = 9 ∨ d = 10 ∨ d = 13 := by simpa [blankB, or_assoc] using hb
      rcases hd with rfl | rfl | rfl | rfl <;> simp [cut1, letterB, digitB, slen] at h
theorem cut1_45 {s : List UInt8} {k : Int} {n : Nat} (h : cut1 s = some (k, n)) (h0 : s.head? = some 45) : n = 1 := by
  match s, h, h0 with
  | c :: r, h, h0 =>
    simp at h0; subst h0
    simp [cut1, letterB, digitB, slen] at h
    omega

/-- A token. -/
structure Tok where
  k : Int
  pos : Nat
  t : List UInt8
  v : Int × Int × List UInt8

/-- A token's value. -/
def valOf (parse : List UInt8 → Option (Int × Int × List UInt8)) (k : Int) (t : List UInt8) : Option (Int × Int × List UInt8) := if k = 2 then parse t else some (0, 0, [])

/-- The token that a text begins with: its kind, how long it is, its value. -/
def one1 (parse : List UInt8 → Option (Int × Int × List UInt8)) (s : List UInt8) : Option (Int × Nat × (Int × Int × List UInt8)) :=
  (cut1 s).bind fun x => (valOf parse x.1 (s.take x.2)).map fun v => (x.1, x.2, v)

/-- The tokens of a text, of which s is left; N: how long it is. -/
def toksF (parse : List UInt8 → Option (Int × Int × List UInt8)) (N : Nat) : Nat → List UInt8 → Option (List Tok)
  | 0, _ => none
  | f + 1, s => if skipM false s = [] then some [] else
    (one1 parse (skipM false s)).bind fun x => (toksF parse N f ((skipM false s).drop x.2.1)).map fun l => ⟨x.1, N - (skipM false s).length, (skipM false s).take x.2.1, x.2.2⟩ :: l

variable {parse : List UInt8 → Option (Int × Int × List UInt8)}

theorem one1_le {s : List UInt8} {x : Int × Nat × (Int × Int × List UInt8)} (h : one1 parse s = some x) : 1 ≤ x.2.1 ∧ x.2.1 ≤ s.length ∧ (x.1 = 1 ∨ x.1 = 2 ∨ x.1 = 3) := by
  unfold one1 at h
  obtain ⟨⟨k, n⟩, h1, h2⟩ := Option.bind_eq_some_iff.1 h
  obtain ⟨v, hv, rfl⟩ := Option.map_eq_some_iff.1 h2
  exact cut1_le h1

/-- More rounds than there are bytes: no matter how many. -/
theorem toks_fuel (N : Nat) : ∀ (f g : Nat) (s : List UInt8), s.length < f → s.length < g → toksF parse N f s = toksF parse N g s := by
  intro f
  induction f with
  | zero => intro g s h; omega
  | succ f ih =>
    intro g s hf hg
    cases g with
    | zero => omega
    | succ g =>
      unfold toksF
      split
      · rfl
      · have hl := skipM_le false s
        cases ho : one1 parse (skipM false s) with
        | none => rfl
        | some x =>
          have := one1_le ho
          simp only [Option.bind_some]
          rw [ih g ((skipM false s).drop x.2.1) (by simp; omega) (by simp; omega)]

theorem skipM_not_remark {s : List UInt8} (h : skipM false s = s) : ¬ (s.head? = some 45 ∧ s[1]? = some 45) := by
  intro h2
  match s, h, h2 with
  | c :: d :: r, h, h2 =>
    simp at h2
    obtain ⟨rfl, rfl⟩ := h2
    have e : skipM false (45 :: 45 :: r) = skipM true (45 :: r) := by simp [skipM, blankB]
    rw [e] at h
    have := skipM_le true (45 :: r)
    rw [h] at this
    simp at this
    omega
  | [c], _, h2 => simp at h2
theorem skipM_idem : ∀ (b : Bool) (s : List UInt8), skipM false (skipM b s) = skipM b s := by
  intro b s
  induction s generalizing b with
  | nil => simp [skip_nil]
  | cons c r ih =>
    cases b
    · rw [skip_f]
      by_cases hb : blankB c = true
      · rw [if_pos hb]; exact ih false
      · rw [if_neg hb]
        by_cases h2 : c = 45 ∧ r.head? = some 45
        · rw [if_pos h2]; exact ih true
        · rw [if_neg h2, skip_f, if_neg hb, if_neg h2]
    · rw [skip_t]
      by_cases h10 : c = 10
      · rw [if_pos h10]; exact ih false
      · rw [if_neg h10]; exact ih true

theorem one1_ext {s : List UInt8} (hs : skipM false s = s) {x : Int × Nat × (Int × Int × List UInt8)} (h : one1 parse s = some x) {r : List UInt8} (ha : Apart (s.drop x.2.1) r) :
    one1 parse (s.take x.2.1 ++ r) = some x ∧ skipM false (s.take x.2.1 ++ r) = s.take x.2.1 ++ r := by
  have hle := one1_le h
  have hno := skipM_not_remark hs
  clear hs
  unfold one1 at h ⊢
  obtain ⟨⟨k, n⟩, h1, h2⟩ := Option.bind_eq_some_iff.1 h
  obtain ⟨v, hv, rfl⟩ := Option.map_eq_some_iff.1 h2
  simp only at h1 hv ha hle ⊢
  have hn : (s.take n).length = n := by simp; omega
  have h1' : cut1 (s.take n ++ s.drop n) = some (k, (s.take n).length) := by rw [List.take_append_drop, hn]; exact h1
  have h3 := cut1_ext h1' ha
  rw [hn] at h3
  refine ⟨?_, ?_⟩
  · rw [h3]
    simp only [Option.bind_some]
    rw [List.take_left' hn, hv]
    rfl
  · refine skipM_stays (cut1_starts h3) ?_
    rintro ⟨h45, h46⟩
    obtain rfl : n = 1 := cut1_45 h3 h45
    match s, hle with
    | c :: s, _ =>
      simp at h45
      subst h45
      have hr : r.head? = some 45 := by
        cases r with
        | nil => simp at h46
        | cons d r => simpa using h46
      refine absurd hr (ha.ne (by decide) (by decide) ?_)
      intro e
      refine hno ⟨rfl, ?_⟩
      cases s with
      | nil => simp at e
      | cons d s => simpa using e

/-- The tokens of a text, of which s is left. -/
def toks (parse : List UInt8 → Option (Int × Int × List UInt8)) (N : Nat) (s : List UInt8) : Option (List Tok) := toksF parse N (s.length + 1) s
theorem toks_eq (N : Nat) (s : List UInt8) : toks parse N s = if skipM false s = [] then some [] else
    (one1 parse (skipM false s)).bind fun x => (toks parse N ((skipM false s).drop x.2.1)).map fun l => ⟨x.1, N - (skipM false s).length, (skipM false s).take x.2.1, x.2.2⟩ :: l := by
  have hl := skipM_le false s
  conv => lhs; unfold toks toksF
  split
  · rfl
  · cases ho : one1 parse (skipM false s) with
    | none => rfl
    | some x =>
      have := one1_le ho
      simp only [Option.bind_some]
      rw [toks_fuel N s.length (((skipM false s).drop x.2.1).length + 1) _ (by simp; omega) (by omega)]
      rfl
theorem toks_nil (N : Nat) : toks parse N [] = some [] := by rw [toks_eq, skip_nil, if_pos rfl]
theorem toks_skip (N : Nat) (s r : List UInt8) (h : skipM false s = skipM false r) : toks parse N s = toks parse N r := by
  rw [toks_eq, toks_eq, h]

def Tok.bare (x : Tok) : Int × List UInt8 × (Int × Int × List UInt8) := (x.k, x.t, x.v)

/-- The texts of tokens, a blank behind each. -/
def blanked (l : List Tok) : List UInt8 := l.flatMap fun x => x.t ++ [32]

theorem toks_blanked (N M : Nat) : ∀ (n : Nat) (s : List UInt8), s.length ≤ n → ∀ l, toks parse N s = some l → ∃ l', toks parse M (blanked l) = some l' ∧ l'.map Tok.bare = l.map Tok.bare := by
  intro n
  induction n with
  | zero =>
    intro s hs l h
    obtain rfl : s = [] := by simpa using hs
    rw [toks_nil] at h
    injection h with h; subst h
    exact ⟨[], toks_nil M, rfl⟩
  | succ n ih =>
    intro s hs l h
    rw [toks_eq] at h
    have hl := skipM_le false s
    split at h
    · injection h with h; subst h
      exact ⟨[], toks_nil M, rfl⟩
    · obtain ⟨x, hx, h⟩ := Option.bind_eq_some_iff.1 h
      obtain ⟨l1, h1, rfl⟩ := Option.map_eq_some_iff.1 h
      have hle := one1_le hx
      obtain ⟨l1', h1', e⟩ := ih ((skipM false s).drop x.2.1) (by simp; omega) l1 h1
      have hsk := skipM_idem false s
      generalize skipM false s = s' at *
      obtain ⟨a1, a2⟩ := one1_ext hsk hx (r := 32 :: blanked l1) (.inr (.inl rfl))
      have hn : (s'.take x.2.1).length = x.2.1 := by simp; omega
      have hb : blanked (⟨x.1, N - s'.length, s'.take x.2.1, x.2.2⟩ :: l1) = s'.take x.2.1 ++ 32 :: blanked l1 := by simp [blanked]
      rw [hb]
      refine ⟨⟨x.1, M - (s'.take x.2.1 ++ 32 :: blanked l1).length, s'.take x.2.1, x.2.2⟩ :: l1', ?_, by simp [Tok.bare, e]⟩
      rw [toks_eq, a2, if_neg (by simp), a1]
      simp only [Option.bind_some]
      rw [List.drop_left' hn, List.take_left' hn, toks_skip M (32 :: blanked l1) (blanked l1) (by rw [skip_f, if_pos (by decide)]), h1']
      rfl

theorem toks_line (N M : Nat) (r : List UInt8) : ∀ (n : Nat) (s : List UInt8), s.length ≤ n → ∀ l, toks parse N s = some l → ∃ l', toks parse M (s ++ 10 :: r) = (toks parse M r).map (l' ++ ·) ∧ l'.map Tok.bare = l.map Tok.bare := by
  intro n
  induction n with
  | zero =>
    intro s hs l h
    obtain rfl : s = [] := by simpa using hs
    rw [toks_nil] at h
    injection h with h; subst h
    refine ⟨[], ?_, rfl⟩
    rw [toks_skip M ([] ++ 10 :: r) r (by rw [skipM_line, skip_nil, if_pos rfl])]
    simp
  | succ n ih =>
    intro s hs l h
    rw [toks_eq] at h
    have hl := skipM_le false s
    split at h
    · rename_i h0
      injection h with h; subst h
      refine ⟨[], ?_, rfl⟩
      rw [toks_skip M (s ++ 10 :: r) r (by rw [skipM_line, if_pos h0])]
      simp
    · rename_i h0
      obtain ⟨x, hx, h⟩ := Option.bind_eq_some_iff.1 h
      obtain ⟨l1, h1, rfl⟩ := Option.map_eq_some_iff.1 h
      have hle := one1_le hx
      obtain ⟨l1', h1', e⟩ := ih ((skipM false s).drop x.2.1) (by simp; omega) l1 h1
      have hsk := skipM_idem false s
      have hln := skipM_line false s r
      rw [if_neg h0] at hln
      generalize skipM false s = s' at *
      have hsp : s' ++ 10 :: r = s'.take x.2.1 ++ (s'.drop x.2.1 ++ 10 :: r) := by rw [← List.append_assoc, List.take_append_drop]
      obtain ⟨a1, a2⟩ := one1_ext hsk hx (r := s'.drop x.2.1 ++ 10 :: r) (by
        cases hd : s'.drop x.2.1 with
        | nil => exact .inr (.inr rfl)
        | cons d q => exact .inl rfl)
      have hn : (s'.take x.2.1).length = x.2.1 := by simp; omega
      refine ⟨⟨x.1, M - (s' ++ 10 :: r).length, s'.take x.2.1, x.2.2⟩ :: l1', ?_, by simp [Tok.bare, e]⟩
      rw [toks_eq, hln, if_neg (by simp), hsp, a1]
      simp only [Option.bind_some]
      rw [List.drop_left' hn, List.take_left' hn, h1']
      cases toks parse M r <;> simp

end Go.Proofs.YtdhaddldmooniaaGreatDoor
