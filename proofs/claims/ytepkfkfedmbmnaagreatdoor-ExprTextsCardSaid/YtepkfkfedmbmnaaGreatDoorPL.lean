/- The plain laws of literals: what is read is spelled so, what is spelled is read so. -/
import Derived.Test.YtepkfkfedmbmnaaGreatDoorMR
namespace Go.Proofs.YtepkfkfedmbmnaaGreatDoor
set_option maxRecDepth 100000

theorem qd_back : ∀ (n : Nat) (r q : List UInt8), r.length ≤ n → qd r = some q → dbl q = r := by
  intro n
  induction n with
  | zero => intro r q h hq; obtain rfl : r = [] := by simpa using h
            simp [qd] at hq; subst hq; rfl
  | succ n ih =>
    intro r q h hq
    match r, h, hq with
    | [], _, hq => simp [qd] at hq; subst hq; rfl
    | [c], _, hq =>
      by_cases hc : c = 39
      · subst hc; simp [qd] at hq
      · simp [qd, hc] at hq; subst hq; simp [dbl, hc]
    | c :: d :: r, h, hq =>
      simp only [List.length_cons] at h
      by_cases hc : c = 39
      · subst hc
        by_cases hd : d = 39
        · subst hd
          rw [qd_hit] at hq
          cases hr : qd r with
          | none => rw [hr] at hq; simp at hq
          | some t =>
            rw [hr] at hq; simp at hq; subst hq
            simp [dbl, ih r t (by omega) hr]
        · rw [qd_bad _ _ hd] at hq; cases hq
      · rw [qd_skip _ _ hc] at hq
        cases hr : qd (d :: r) with
        | none => rw [hr] at hq; simp at hq
        | some t =>
          rw [hr] at hq; simp at hq; subst hq
          simp [dbl, hc, ih (d :: r) t (by simp; omega) hr]
theorem qd_dbl (l : List UInt8) : qd (dbl l) = some l := by
  induction l with
  | nil => rfl
  | cons c r ih =>
    by_cases hc : c = 39
    · subst hc; simp only [dbl, if_true]; rw [qd_hit, ih]; rfl
    · simp only [dbl, if_neg hc]; rw [qd_skip _ _ hc, ih]; rfl
theorem unq_back {s q : List UInt8} (h : unq s = some q) : s = 39 :: (dbl q ++ [39]) := by
  rw [← rquotedV_unq] at h
  unfold rquotedV at h
  cases hc : cutQ s with
  | none => rw [hc] at h; cases h
  | some r =>
    rw [hc] at h
    have := qd_back r.length r q (Nat.le_refl _) h
    rw [this]; exact (cutQ_iff s r).1 hc
theorem unq_lit (l : List UInt8) : unq (39 :: (dbl l ++ [39])) = some l := by
  rw [← rquotedV_unq]
  unfold rquotedV
  rw [(cutQ_iff _ (dbl l)).2 rfl]
  exact qd_dbl l

theorem hex_hv (d : Nat) (h : d < 16) : hv (hexDigit d) = d := by
  have : ∀ m : Fin 16, hv (hexDigit m.val) = m.val := by decide
  exact this ⟨d, h⟩
theorem hex_is (d : Nat) (h : d < 16) : isHex (hexDigit d) = true := by
  have : ∀ m : Fin 16, isHex (hexDigit m.val) = true := by decide
  exact this ⟨d, h⟩
theorem hv_hexDigit {c : UInt8} (h : isHex c = true) : hexDigit (hv c).toNat = c := by
  have : c ∈ digitsL := by simpa [isHex] using h
  simp only [digitsL, List.mem_cons, List.mem_nil_iff, or_false] at this
  rcases this with rfl | rfl | rfl | rfl | rfl | rfl | rfl | rfl | rfl | rfl | rfl | rfl | rfl | rfl | rfl | rfl <;> decide
theorem hex_noq {c : UInt8} (h : isHex c = true) : c ≠ 39 := by
  intro e; subst e; exact absurd h (by decide)
theorem hexOf_all (l : List UInt8) : hexAll (hexOf l) := by
  induction l with
  | nil => exact ⟨rfl, fun c hc => by simp [hexOf] at hc⟩
  | cons c r ih =>
    have hc := c.toNat_lt
    obtain ⟨h1, h2⟩ := ih
    have e : hexOf (c :: r) = hexDigit (c.toNat / 16) :: hexDigit (c.toNat % 16) :: hexOf r := by simp [hexOf]
    rw [e]
    refine ⟨by simp; omega, ?_⟩
    intro x hx
    simp only [List.mem_cons] at hx
    rcases hx with rfl | rfl | hx
    · exact hex_is _ (by omega)
    · exact hex_is _ (by omega)
    · exact h2 x hx
theorem unhex_hexOf (l : List UInt8) : unhex (hexOf l) = l := by
  induction l with
  | nil => rfl
  | cons c r ih =>
    have hc := c.toNat_lt
    have e : hexOf (c :: r) = hexDigit (c.toNat / 16) :: hexDigit (c.toNat % 16) :: hexOf r := by simp [hexOf]
    rw [e]
    simp only [unhex]
    rw [ih, hex_hv _ (by omega), hex_hv _ (by omega)]
    have : (16 * ((c.toNat / 16 : Nat) : Int) + ((c.toNat % 16 : Nat) : Int)).toNat = c.toNat := by omega
    rw [this]
    simp
theorem hexOf_unhex : ∀ (q : List UInt8), hexAll q → hexOf (unhex q) = q
  | [], _ => rfl
  | [_], h => by have := h.1; simp at this
  | a :: b :: r, h => by
    have ha := h.2 a (by simp)
    have hb := h.2 b (by simp)
    have ih := hexOf_unhex r ⟨by have := h.1; simp at this; omega, fun c hc => h.2 c (by simp [hc])⟩
    have ra := hv_range a ha
    have rb := hv_range b hb
    have e1 : ((16 * hv a + hv b).toNat) % 256 / 16 = (hv a).toNat := by omega
    have e2 : ((16 * hv a + hv b).toNat) % 256 % 16 = (hv b).toNat := by omega
    simp only [unhex]
    show hexDigit ((UInt8.ofNat (16 * hv a + hv b).toNat).toNat / 16) :: hexDigit ((UInt8.ofNat (16 * hv a + hv b).toNat).toNat % 16) :: hexOf (unhex r) = a :: b :: r
    rw [ih]
    simp only [UInt8.toNat_ofNat']
    rw [show (2 : Nat) ^ 8 = 256 from rfl, e1, e2, hv_hexDigit ha, hv_hexDigit hb]
theorem dbl_noq {l : List UInt8} (h : ∀ c ∈ l, c ≠ 39) : dbl l = l := by
  induction l with
  | nil => rfl
  | cons c r ih => simp only [dbl, if_neg (h c (by simp))]; rw [ih fun x hx => h x (by simp [hx])]

theorem readRest_back {s : List UInt8} {k : Int} {l : List UInt8} (h : readRest s = some (k, l)) : (k = 3 ∨ k = 4) ∧ lit k 0 l = s := by
  by_cases h0 : s[0]? = some 120
  · obtain ⟨r, rfl⟩ : ∃ r, s = 120 :: r := by
      cases s with
      | nil => simp at h0
      | cons c r => exact ⟨r, by simpa using h0⟩
    rw [readRest_x] at h
    cases hq : unq r with
    | none => rw [hq] at h; cases h
    | some q =>
      rw [hq] at h
      simp only [Option.bind_some] at h
      split at h
      · rename_i ha
        injection h with h
        injection h with h1 h2
        subst h1 h2
        refine ⟨Or.inr rfl, ?_⟩
        rw [unq_back hq, dbl_noq fun c hc => hex_noq (ha.2 c hc)]
        simp [lit, litBlob, hexOf_unhex q ha]
      · cases h
  · rw [readRest_t h0] at h
    cases hq : unq s with
    | none => rw [hq] at h; cases h
    | some q =>
      rw [hq] at h
      simp only [Option.map_some] at h
      injection h with h
      injection h with h1 h2
      subst h1 h2
      refine ⟨Or.inl rfl, ?_⟩
      rw [unq_back hq]
      simp [lit, litText]

theorem lit_read {s : List UInt8} {k n : Int} {l : List UInt8} (h : readV s = some (k, n, l)) : lit k n l = s := by
  unfold readV at h
  split at h
  · rename_i k' n' hn
    injection h with h
    injection h with h1 h2
    injection h2 with h2 h3
    subst h1 h2 h3
    unfold isName at hn
    split at hn
    · rename_i e; injection hn with hn; injection hn with h1 h2; subst h1 h2; exact e
    · split at hn
      · rename_i e; injection hn with hn; injection hn with h1 h2; subst h1 h2; exact e
      · split at hn
        · rename_i e; injection hn with hn; injection hn with h1 h2; subst h1 h2; exact e
        · cases hn
  · split at h
    · rename_i n' hn
      injection h with h
      injection h with h1 h2
      injection h2 with h2 h3
      subst h1 h2 h3
      unfold readNum at hn
      split at hn
      · split at hn
        · rename_i e; injection hn with hn; subst hn; simp [lit, e]
        · cases hn
      · cases hn
    · cases hr : readRest s with
      | none => rw [hr] at h; cases h
      | some x =>
        obtain ⟨k', l'⟩ := x
        rw [hr] at h
        simp at h
        obtain ⟨rfl, rfl, rfl⟩ := h
        exact (readRest_back hr).2

theorem itoa_head {n : Int} {c : UInt8} (h : (Lib.itoa n)[0]? = some c) : c = 45 ∨ isDig c := by
  by_cases hn : n < 0
  · unfold Lib.itoa at h; rw [if_pos hn] at h; simp at h; exact Or.inl h.symm
  · unfold Lib.itoa at h; rw [if_neg hn] at h; exact Or.inr (dec_dig _ c (List.mem_of_getElem? h))
theorem isName_head {s : List UInt8} (h : s[0]? ≠ some 110) (h1 : s[0]? ≠ some 102) (h2 : s[0]? ≠ some 116) : isName s = none :=
  isName_not (fun e => by subst e; simp at h) (fun e => by subst e; simp at h1) (fun e => by subst e; simp at h2)
theorem readNum_head {s : List UInt8} {c : UInt8} (h : s[0]? = some c) (h1 : c ≠ 45) (h2 : ¬ isDig c) : readNum s = none :=
  readNum_not fun n _ e => by subst e; rcases itoa_head h with h' | h' <;> contradiction

theorem read_lit {k n : Int} {l : List UInt8} (h : chk k n l = 0) (hn : I64 n) : readV (lit k n l) = some (k, n, l) := by
  obtain ⟨_, hc⟩ := chk_ways h
  rcases hc with ⟨rfl, rfl, rfl⟩ | ⟨rfl, rfl, rfl⟩ | ⟨rfl, rfl, rfl⟩ | ⟨rfl, rfl⟩ | ⟨rfl, rfl⟩ | ⟨rfl, rfl⟩
  · decide
  · decide
  · decide
  · have e : lit 2 n [] = Lib.itoa n := by simp [lit]
    rw [e]
    refine readV_num (isName_head ?_ ?_ ?_) (readNum_of hn rfl) <;> intro hh <;> rcases itoa_head hh with h' | h' <;> revert h' <;> first | decide | (unfold isDig; decide)
  · have e : lit 3 0 l = 39 :: (dbl l ++ [39]) := by simp [lit, litText]
    rw [e, readV_rest (isName_head (by simp) (by simp) (by simp)) (readNum_head (c := 39) rfl (by decide) (by unfold isDig; decide)), readRest_t (by simp), unq_lit]
    rfl
  · have e : lit 4 0 l = 120 :: (39 :: (hexOf l ++ [39])) := by simp [lit, litBlob]
    have hx := hexOf_all l
    rw [e, readV_rest (isName_head (by simp) (by simp) (by simp)) (readNum_head (c := 120) rfl (by decide) (by unfold isDig; decide)), readRest_x]
    conv => lhs; rw [← dbl_noq fun c hc => hex_noq (hx.2 c hc)]
    rw [unq_lit]
    simp only [Option.bind_some, if_pos hx, unhex_hexOf]
    rfl

theorem parse_lit {k n : Int} {l : List UInt8} (h : chk k n l = 0) (hn : I64 n) : parseV (lit k n l) = (k, n, l, 0) := by
  simp [parseV, read_lit h hn, h]
/-- Unlike values have unlike literals. -/
theorem lit_inj {k n k' n' : Int} {l l' : List UInt8} (h : chk k n l = 0) (hn : I64 n) (h' : chk k' n' l' = 0) (hn' : I64 n') (e : lit k n l = lit k' n' l') : k = k' ∧ n = n' ∧ l = l' := by
  have h1 := read_lit h hn
  rw [e, read_lit h' hn'] at h1
  simp at h1
  exact ⟨h1.1.symm, h1.2.1.symm, h1.2.2.symm⟩
theorem lit_len {k n : Int} {l : List UInt8} (h : chk k n l = 0) (hn : I64 n) : (lit k n l).length ≤ 10000 := by
  obtain ⟨hl, hc⟩ := chk_ways h
  rcases hc with ⟨rfl, rfl, rfl⟩ | ⟨rfl, rfl, rfl⟩ | ⟨rfl, rfl, rfl⟩ | ⟨rfl, rfl⟩ | ⟨rfl, rfl⟩ | ⟨rfl, rfl⟩
  · decide
  · decide
  · decide
  · have e : lit 2 n [] = Lib.itoa n := by simp [lit]
    rw [e]; have := Lib.itoa_length_le n hn.1 hn.2; omega
  · have e : lit 3 0 l = 39 :: (dbl l ++ [39]) := by simp [lit, litText]
    have := dbl_length l
    rw [e]; simp; omega
  · have e : lit 4 0 l = 120 :: (39 :: (hexOf l ++ [39])) := by simp [lit, litBlob]
    have : (hexOf l).length = 2 * l.length := by clear h hl hn e; induction l with
      | nil => rfl
      | cons c r ih => simp [hexOf] at ih ⊢; omega
    rw [e]; simp; omega

end Go.Proofs.YtepkfkfedmbmnaaGreatDoor
