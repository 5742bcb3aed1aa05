/- The reference of layer 16: Text. -/
import Derived.Test.YtepkfkfedmbmnaaGreatDoorMZ
import Derived.Deep.QuietTactic
import Derived.BigQuiet
import Derived.BigRegion
import Derived.RegionTactic
namespace Go.Proofs.YtepkfkfedmbmnaaGreatDoor
open Go.RowKit Go.Shelf
set_option maxRecDepth 100000

theorem joinB_snoc (s : List UInt8) (x : List UInt8) : ∀ l : List (List UInt8), l ≠ [] → joinB s (l ++ [x]) = joinB s l ++ s ++ x
  | [], h => absurd rfl h
  | [y], _ => by simp [joinB]
  | y :: z :: r, _ => by
    have h := joinB_snoc s x (z :: r) (by simp)
    show y ++ s ++ joinB s ((z :: r) ++ [x]) = y ++ s ++ joinB s (z :: r) ++ s ++ x
    rw [h]
    simp
theorem join_two (s x y : List UInt8) : joinB s [x, y] = x ++ s ++ y := by simp [joinB]
theorem join_three (s x y z : List UInt8) : joinB s [x, y, z] = x ++ s ++ y ++ s ++ z := by simp [joinB]
/-- What is told at the end of the reference's Text. -/
structure TextAt (k : Int) (v : Int × Int × List UInt8) (t n : List UInt8) (o : Int) (args : List Ex) : Prop where
  right : rightF k v t n o args = true
  i64 : I64 v.2.1
--BEGIN1
set_option maxHeartbeats 16000000 in
theorem xText_any : ∀ (N : Nat) (x : Ex), partsE x ≤ N → N ≤ 1000000 → checkB x = true → Fits x → (textE x).length ≤ 100000000 → ∀ (W : World) (v : Value), ReadsE W x v → Calls Tryz.prog 27 #[v] W fun e w' => e = .returned (S (textE x)) ∧ Bl W w'
  | 0, x, h, _, _, _, _, _, _, _ => by have := parts_pos x; omega
  | N + 1, x, hx, hN, hC, hF, hl, W, v, hv => by
    obtain ⟨sv, rfl, hR⟩ := hv
    obtain ⟨a, cap, rfl, hc⟩ := hR.shape
    have hr := checkB_right hC
    have IH : Hid (∀ (y : Ex), y ∈ x.args → ∀ (W' : World) (v : Value), ReadsE W' y v → Calls Tryz.prog 27 #[v] W' fun e w' => e = .returned (S (textE y)) ∧ Bl W' w') := fun y hy W' v hv =>
      xText_any N y (by have := parts_arg hy; omega) (by omega) (checkB_args hC hy) (by cases hF with | mk _ _ _ _ _ _ _ ha => exact ha y hy) (by have := text_arg_len hC hy; omega) W' v hv
    have HLN : Hid (∀ y ∈ x.args, (textE y).length ≤ 100000000) := fun y hy => by have := text_arg_len hC hy; omega
    have hlen : x.args.length ≤ 1000000 := by have := parts_len x; omega
    have hI : I64 x.v.2.1 := by cases hF with | mk _ _ _ _ _ _ h _ => exact h
    clear hR hF hx
    obtain ⟨k, ⟨v1, v2, v3⟩, t, nm, o, args⟩ := x
    have HC : Hid (∀ (j : Nat) (h : j < args.length), ∃ b off s, a = some ⟨b, off, none⟩ ∧ At8 W b (off + j * 8) args[j] s ∧ ReadsL W s args[j].args) := Lib.hid hc
    replace hlen : args.length ≤ 1000000 := hlen
    clear hc
    show Calls Tryz.prog 27 #[EV k (v1, v2, v3) t nm o (.slice a args.length cap)] W fun e w' => e = .returned (S (textE (.mk k (v1, v2, v3) t nm o args))) ∧ Bl W w'
    have HR : Hid (TextAt k (v1, v2, v3) t nm o args) := ⟨hr, hI⟩
    have HT : Hid (textE (.mk k (v1, v2, v3) t nm o args) = tellT k (v1, v2, v3) t nm o (args.map textE)) := by show _ = _; simp only [textE, textsE_map]
    rw [HT.out]
    obtain ⟨u, hu⟩ : ∃ u, Hid (tellT k (v1, v2, v3) t nm o (args.map textE) = u) := ⟨_, rfl⟩
    rw [hu.out]
    have HB0 := Lib.hid ((Bl.refl W).alloc (.cells #[.int .i64 k, .int .i64 v1, .int .i64 v2, S v3, S t, S nm, .int .i64 o, .slice a args.length cap] 30))
    have HX0 := Lib.hid (heap_new W (.cells #[.int .i64 k, .int .i64 v1, .int .i64 v2, S v3, S t, S nm, .int .i64 o, .slice a args.length cap] 30))
    obtain ⟨i0, hi, hz0, hz1, hz2⟩ := infoStr_parts
    clear hr hC hI HT hl
    go_enter Tryz.func27, Tryz.ntmps27
    go_wp2_with fail
    go_loopw [3, 4, 5] (fun sv al i wr => ∃ (j : Nat) (v0 : Value) (z : List UInt8), sv = v0 ∧ al = S z ∧ j ≤ args.length ∧ i = .int .i64 (j : Int) ∧ z.length ≤ j * 100000002 ∧ Hid (z = joinB [44, 32] ((args.map textE).take j)) ∧ Hid (wr.ownsRow (W.heap.size + 1) 9 1 v0 j (((args.map textE).take j).map fun s => S s)) ∧ Hid (Bl W wr) ∧
      Hid (wr.heap[W.heap.size]? = some (.cells #[.int .i64 k, .int .i64 v1, .int .i64 v2, S v3, S t, S nm, .int .i64 o, .slice a args.length cap] 30 (0, 0)))) (fun _ _ i _ => args.length - (intOf i).toNat)
    case atStart => exact ⟨0, _, [], rfl, rfl, Nat.zero_le _, rfl, by simp, rfl, World.ownsRow_nil _ _ _ _, HB0.out, HX0.out⟩
    case round =>
      obtain ⟨j, v0, z, rfl, rfl, hj, rfl, hzl, HZ, HO, HB, HX⟩ := hrel
      have hzr := (Array.getElem?_eq_some_iff.1 HX.out).1
      by_cases hlt : j < args.length
      · obtain ⟨⟨-, -, -, -, -, -, -, c7⟩, -⟩ := eight HX.out
        obtain ⟨b, off, s, rfl, h8, hr⟩ := HC.out j hlt
        have hmem := List.getElem_mem hlt
        obtain ⟨asl, cs, rfl, -⟩ := hr.shape
        have HRj := Lib.hid (hr.bl HB.out)
        have HSN := Lib.hid (show (args.map textE).take (j + 1) = (args.map textE).take j ++ [textE args[j]] from by
          rw [take_snoc _ (by simpa using hlt)]
          simp)
        have HM := Lib.hid hmem
        have hyl := HLN.out _ hmem
        obtain ⟨e0, e1, e2, e3, e4, e5, e6, e7⟩ := At8.keep h8 (HB.out.block b (by have := World.block_lt_of_cell? _ _ h8.1; simpa using this))
        clear h8 hr hmem
        generalize args[j] = y at *
        obtain ⟨k', ⟨v1', v2', v3'⟩, t', nm', o', args'⟩ := y
        simp only [Ex.k, Ex.v, Ex.t, Ex.n, Ex.o, Ex.args] at e0 e1 e2 e3 e4 e5 e6 e7 HRj
        have hlt' : (j : Int) < (args.length : Int) := by omega
        go_wp2_with fail
        have hRE : ReadsE wr (.mk k' (v1', v2', v3') t' nm' o' args') (EV k' (v1', v2', v3') t' nm' o' (.slice asl args'.length cs)) := ⟨_, rfl, HRj.out⟩
        refine (IH.out _ HM.out _ _ hRE).mono ?_
        rintro e w1 ⟨rfl, hb1⟩
        have HB1 := Lib.hid hb1
        have HO1 := Lib.hid (ownsRow_bl HB1.out HO.out)
        have HX1 := Lib.hid ((HB1.out.block _ hzr).trans HX.out)
        have hz1' := (Array.getElem?_eq_some_iff.1 HX1.out).1
        obtain ⟨ty, hty⟩ : ∃ ty, Hid (textE (.mk k' (v1', v2', v3') t' nm' o' args') = ty) := ⟨_, rfl⟩
        rw [hty.out] at hyl ⊢
        clear hb1 hRE e0 e1 e2 e3 e4 e5 e6 e7 c7
        have HJN : Hid ((if j = 0 then ty else z ++ [44, 32] ++ ty) = joinB [44, 32] ((args.map textE).take (j + 1))) := by
          show _ = _
          rw [HSN.out, hty.out]
          by_cases h0 : j = 0
          · subst h0
            rw [if_pos rfl]
            simp [joinB]
          · rw [if_neg h0, joinB_snoc _ _ _ (by intro h; have := congrArg List.length h; simp only [List.length_take, List.length_map, List.length_nil] at this; omega), ← HZ.out]
        by_cases h0 : j = 0
        · subst h0
          have HZ0 : z = [] := by have := HZ.out; simpa [joinB] using this
          subst HZ0
          go_wp2_with (at_builtin; refine wpList_append_own _ rfl _ _ 93 rfl (W.heap.size + 1) 9 i0 (.string ⟨#[]⟩) 1 16 Tryz.underlying93 hi hz0 hz1 hz2 rfl (by decide) _ _ _ rfl (ownsRow_bl ((Bl.refl w1).alloc _) HO1.out) ⟨w1.heap.size, 0, none⟩ 1 1 [S ty] rfl rfl ?c1 ?c2 ?c3 ?c4 ?c5 ?_)
          case c1 =>
            intro i u hi
            match i, hi with
            | 0, hi => simp at hi; subst hi; simp [Addr.add]
          case c2 => intro u hu; simp at hu; subst hu; rfl
          case c3 => unfold maxLen; omega
          case c4 => omega
          case c5 => simp; omega
          intro v' w2 hown2 hg2 _
          have hlow := HO1.out.lt
          have HB2 := Lib.hid (Below.grown ((HB.out.call HB1.out).alloc _) hg2 (by have := (HB.out.call HB1.out).size; simp; omega) (fun i hi => by have := (hlow i hi).1; omega))
          have HX2 := Lib.hid ((hg2.block W.heap.size (by simp; omega) (fun e => by have := (hlow _ e.symm).1; omega)).trans ((heap_old _ _ hz1').trans HX1.out))
          have HO2 := Lib.hid hown2
          clear hown2 hg2 hlow
          go_wp2
          go_roundw
          case rel => exact ⟨1, _, ty, rfl, (by first | rfl | simp [cat_arr]), by omega, by go_num, by omega, (by show ty = joinB [44, 32] _; simpa using HJN.out), by rw [HSN.out, hty.out, List.map_append, List.map_take, List.map_map]; exact HO2.out, HB2.out, HX2.out⟩
          case measure => simp [intOf]; omega
        · have h0' : (0 : Int) < (j : Int) := by omega
          go_wp2_with (at_builtin; refine wpList_append_own _ rfl _ _ 93 rfl (W.heap.size + 1) 9 i0 (.string ⟨#[]⟩) 1 16 Tryz.underlying93 hi hz0 hz1 hz2 rfl (by decide) _ _ _ rfl (ownsRow_bl ((Bl.refl w1).alloc _) HO1.out) ⟨w1.heap.size, 0, none⟩ 1 1 [S ty] rfl rfl ?d1 ?d2 ?d3 ?d4 ?d5 ?_)
          case d1 =>
            intro i u hi
            match i, hi with
            | 0, hi => simp at hi; subst hi; simp [Addr.add]
          case d2 => intro u hu; simp at hu; subst hu; rfl
          case d3 => unfold maxLen; omega
          case d4 => omega
          case d5 => simp; omega
          intro v' w2 hown2 hg2 _
          have hlow := HO1.out.lt
          have HB2 := Lib.hid (Below.grown ((HB.out.call HB1.out).alloc _) hg2 (by have := (HB.out.call HB1.out).size; simp; omega) (fun i hi => by have := (hlow i hi).1; omega))
          have HX2 := Lib.hid ((hg2.block W.heap.size (by simp; omega) (fun e => by have := (hlow _ e.symm).1; omega)).trans ((heap_old _ _ hz1').trans HX1.out))
          have HO2 := Lib.hid hown2
          clear hown2 hg2 hlow
          go_wp2
          go_roundw
          case rel => exact ⟨j + 1, _, z ++ [44, 32] ++ ty, rfl, by simp [cat_arr], by omega, by go_num, by simp; omega, by have h := HJN.out; rw [if_neg h0] at h; exact h, by rw [HSN.out, hty.out, List.map_append, List.map_take, List.map_map]; exact HO2.out, HB2.out, HX2.out⟩
          case measure => simp [intOf]; omega
      · obtain rfl : j = args.length := by omega
        have HS : Hid ((args.map textE = [] ∧ ∃ a' d', u3 = .slice a' 0 d') ∨ StrsC wr u3 (args.map textE)) := by
          have h := HO.out
          rw [List.take_of_length_le (by simp)] at h
          have h2 : wr.ownsRow (W.heap.size + 1) 9 1 u3 (args.map textE).length ((args.map textE).map fun s => S s) := by rw [List.length_map]; exact h
          exact own_strs h2
        have HZ' : Hid (z = joinB [44, 32] (args.map textE)) := by
          have h := HZ.out
          rw [List.take_of_length_le (by simp)] at h
          exact h
        have hge : ¬ ((args.length : Int) < (args.length : Int)) := by omega
        have HML : Hid ((args.map textE).length = args.length) := by show _ = _; simp
        have HLS : Hid (∀ s ∈ args.map textE, s.length ≤ 100000000) := fun s hs => by
          obtain ⟨y, hy, rfl⟩ := List.mem_map.1 hs
          exact HLN.out y hy
        generalize args.map textE = ls at *
        obtain ⟨⟨e0, e1, e2, e3, e4, e5, e6, e7⟩, -⟩ := eight HX.out
        clear HO IH HC hj hlt HZ HLN
        rcases right_kind HR.out.right with rfl | rfl | rfl | rfl | rfl
        · have HL := Lib.hid (rLiteral_ok v1 v2 v3 (by
            have h := HR.out.right
            simp only [rightF, if_pos, Bool.and_eq_true, beq_iff_eq] at h
            exact h.1.2) HR.out.i64.1 HR.out.i64.2)
          have HE : Hid (lit v1 v2 v3 = u) := by show _ = _; rw [← hu.out]; rfl
          go_wp2_with fail
          refine (HL.out _).mono ?_
          rintro e w1 ⟨rfl, hb1⟩
          go_wp2
          go_ret
          exact ⟨by rw [← HE.out] <;> rfl, HB.out.call hb1⟩
        · by_cases ht : t = []
          · subst ht
            have HE : Hid (nm = u) := by show _ = _; rw [← hu.out]; rfl
            go_wp2
            go_ret
            exact ⟨by rw [← HE.out] <;> rfl, HB.out⟩
          · have hln : t.length ≤ 10000 ∧ nm.length ≤ 10000 := by
              have h := HR.out.right
              simp [rightF, ht] at h
              exact ⟨name_len h.2, name_len h.1.2⟩
            have HE : Hid (t ++ [46] ++ nm = u) := by show _ = _; rw [← hu.out]; simp [tellT, ht]
            have hb : (t == []) = false := by simpa using ht
            have hb' : (t != []) = true := by simpa using ht
            clear ht
            go_wp2
            go_ret
            exact ⟨by rw [← HE.out]; simp [cat_arr], HB.out⟩
        · obtain ⟨ho1, ho2, hm, -⟩ := right_op HR.out.right
          have hls : ls.length = opMany o := HML.out.trans hm
          clear hm
          by_cases h14 : o ≤ 14
          · have hmn := many_two ho1 h14
            rw [hmn] at hls
            obtain ⟨x, y, rfl⟩ := two_of hls
            have HS3 : Hid (StrsC wr u3 [x, y]) := by
              rcases HS.out with ⟨e, -⟩ | h
              · cases e
              · exact h
            have hlx := HLS.out x (by simp)
            have hly := HLS.out y (by simp)
            have HE : Hid ([40] ++ x ++ [32] ++ opName o ++ [32] ++ y ++ [41] = u) := by show _ = _; rw [← hu.out]; simp [tellT, hmn, nestT, join_three]
            obtain ⟨bs, cps, rfl, -⟩ := id HS3.out
            clear hls HML HLS HS
            obtain ⟨mm, hmm, hb2⟩ : ∃ mm : Int, Hid ((opMany o : Int) = mm) ∧ (mm == 2) = true := ⟨_, rfl, by rw [hmn]; rfl⟩
            have hol := op_len o
            have HYI : Hid (∀ w, Calls Tryz.prog 47 #[.int .i64 o] w fun e w' => e = .returned (.agg #[S (opName o), .int .i64 mm, .int .i64 (opOf o), .int .i64 (opMakes o)]) ∧ Bl w w') := fun w => by rw [← hmm.out]; exact yInfo_any o w
            go_wp2_with fail
            refine (HYI.out _).mono ?_
            rintro e w1 ⟨rfl, hb1⟩
            have HB1 := Lib.hid (HB.out.call hb1)
            have HX1 := Lib.hid ((hb1.block W.heap.size hzr).trans HX.out)
            have hz1 := (Array.getElem?_eq_some_iff.1 HX1.out).1
            have HI := Lib.hid (heap_new w1 (.cells #[S (opName o), .int .i64 mm, .int .i64 (opOf o), .int .i64 (opMakes o)] 88))
            have HX2 := Lib.hid ((heap_old w1 (.cells #[S (opName o), .int .i64 mm, .int .i64 (opOf o), .int .i64 (opMakes o)] 88) hz1).trans HX1.out)
            have HB2 := Lib.hid (HB1.out.alloc (.cells #[S (opName o), .int .i64 mm, .int .i64 (opOf o), .int .i64 (opMakes o)] 88))
            have HS2 := Lib.hid ((HS3.out.bl hb1).bl ((Bl.refl w1).alloc (.cells #[S (opName o), .int .i64 mm, .int .i64 (opOf o), .int .i64 (opMakes o)] 88)))
            clear e0 e1 e2 e3 e4 e5 e6 e7 hmn
            obtain ⟨⟨-, -, -, -, -, -, e6, -⟩, -⟩ := eight HX1.out
            go_wp2_with fail
            obtain ⟨b', cap', eb, -, -, hc⟩ := HS2.out
            have c0 := hc 0 (by simp)
            have c1 : _ = some (S y) := hc 1 (by simp)
            have i0 : (w1.alloc (.cells #[S (opName o), .int .i64 mm, .int .i64 (opOf o), .int .i64 (opMakes o)] 88)).cell? ⟨w1.heap.size, 0, none⟩ = some (S (opName o)) := by rw [Lib.cell_of_heap HI.out]; rfl
            simp only [List.getElem_cons_zero] at c0
            clear hc e6
            obtain ⟨rfl, rfl⟩ : bs = b' ∧ cps = cap' := by simpa using eb
            go_quiet (fail)
            go_wp2
            go_ret
            exact ⟨by rw [← HE.out]; simp [cat_arr], HB2.out.call (Bl.drewN _ _)⟩
          · have hmn := many_one (o := o) (by omega) ho2
            rw [hmn] at hls
            obtain ⟨x, rfl⟩ := one_of hls
            have HS3 : Hid (StrsC wr u3 [x]) := by
              rcases HS.out with ⟨e, -⟩ | h
              · cases e
              · exact h
            have hlx := HLS.out x (by simp)
            have hz : z = x := by have := HZ'.out; simpa [joinB] using this
            subst hz
            clear hls HML HLS HS
            by_cases h19 : 19 ≤ o
            · have HE : Hid (opName o ++ [40] ++ z ++ [41] = u) := by
                show _ = _
                have h' : o = 19 ∨ o = 20 := by omega
                rw [← hu.out]
                simp [tellT, hmn, callT, joinB, h']
              obtain ⟨bs, cps, rfl, -⟩ := id HS3.out
              obtain ⟨mm, hmm, hb2⟩ : ∃ mm : Int, Hid ((opMany o : Int) = mm) ∧ (mm == 2) = false := ⟨_, rfl, by rw [hmn]; rfl⟩
              have hol := op_len o
              have HYI : Hid (∀ w, Calls Tryz.prog 47 #[.int .i64 o] w fun e w' => e = .returned (.agg #[S (opName o), .int .i64 mm, .int .i64 (opOf o), .int .i64 (opMakes o)]) ∧ Bl w w') := fun w => by rw [← hmm.out]; exact yInfo_any o w
              go_wp2_with fail
              refine (HYI.out _).mono ?_
              rintro e w1 ⟨rfl, hb1⟩
              have HB1 := Lib.hid (HB.out.call hb1)
              have HX1 := Lib.hid ((hb1.block W.heap.size hzr).trans HX.out)
              have hz1 := (Array.getElem?_eq_some_iff.1 HX1.out).1
              have HI := Lib.hid (heap_new w1 (.cells #[S (opName o), .int .i64 mm, .int .i64 (opOf o), .int .i64 (opMakes o)] 88))
              have HX2 := Lib.hid ((heap_old w1 (.cells #[S (opName o), .int .i64 mm, .int .i64 (opOf o), .int .i64 (opMakes o)] 88) hz1).trans HX1.out)
              have HB2 := Lib.hid (HB1.out.alloc (.cells #[S (opName o), .int .i64 mm, .int .i64 (opOf o), .int .i64 (opMakes o)] 88))
              have HS2 := Lib.hid ((HS3.out.bl hb1).bl ((Bl.refl w1).alloc (.cells #[S (opName o), .int .i64 mm, .int .i64 (opOf o), .int .i64 (opMakes o)] 88)))
              clear e0 e1 e2 e3 e4 e5 e6 e7 hmn
              obtain ⟨⟨-, -, -, -, -, -, e6, -⟩, -⟩ := eight HX1.out
              go_wp2
              go_ret
              exact ⟨by rw [← HE.out]; simp [cat_arr], HB2.out⟩
            by_cases h17 : 17 ≤ o
            · have HE : Hid ([40] ++ z ++ [32] ++ opName o ++ [41] = u) := by
                show _ = _
                have h' : ¬ (o = 19 ∨ o = 20) := by omega
                have h'' : o = 17 ∨ o = 18 := by omega
                rw [← hu.out]
                simp [tellT, hmn, nestT, join_two, h', h'']
              obtain ⟨bs, cps, rfl, -⟩ := id HS3.out
              obtain ⟨mm, hmm, hb2⟩ : ∃ mm : Int, Hid ((opMany o : Int) = mm) ∧ (mm == 2) = false := ⟨_, rfl, by rw [hmn]; rfl⟩
              have hol := op_len o
              have HYI : Hid (∀ w, Calls Tryz.prog 47 #[.int .i64 o] w fun e w' => e = .returned (.agg #[S (opName o), .int .i64 mm, .int .i64 (opOf o), .int .i64 (opMakes o)]) ∧ Bl w w') := fun w => by rw [← hmm.out]; exact yInfo_any o w
              go_wp2_with fail
              refine (HYI.out _).mono ?_
              rintro e w1 ⟨rfl, hb1⟩
              have HB1 := Lib.hid (HB.out.call hb1)
              have HX1 := Lib.hid ((hb1.block W.heap.size hzr).trans HX.out)
              have hz1 := (Array.getElem?_eq_some_iff.1 HX1.out).1
              have HI := Lib.hid (heap_new w1 (.cells #[S (opName o), .int .i64 mm, .int .i64 (opOf o), .int .i64 (opMakes o)] 88))
              have HX2 := Lib.hid ((heap_old w1 (.cells #[S (opName o), .int .i64 mm, .int .i64 (opOf o), .int .i64 (opMakes o)] 88) hz1).trans HX1.out)
              have HB2 := Lib.hid (HB1.out.alloc (.cells #[S (opName o), .int .i64 mm, .int .i64 (opOf o), .int .i64 (opMakes o)] 88))
              have HS2 := Lib.hid ((HS3.out.bl hb1).bl ((Bl.refl w1).alloc (.cells #[S (opName o), .int .i64 mm, .int .i64 (opOf o), .int .i64 (opMakes o)] 88)))
              clear e0 e1 e2 e3 e4 e5 e6 e7 hmn
              obtain ⟨⟨-, -, -, -, -, -, e6, -⟩, -⟩ := eight HX1.out
              go_wp2_with fail
              obtain ⟨b', cap', eb, -, -, hc⟩ := HS2.out
              have c0 := hc 0 (by simp)
              skip
              have i0 : (w1.alloc (.cells #[S (opName o), .int .i64 mm, .int .i64 (opOf o), .int .i64 (opMakes o)] 88)).cell? ⟨w1.heap.size, 0, none⟩ = some (S (opName o)) := by rw [Lib.cell_of_heap HI.out]; rfl
              simp only [List.getElem_cons_zero] at c0
              clear hc e6
              obtain ⟨rfl, rfl⟩ : bs = b' ∧ cps = cap' := by simpa using eb
              go_quiet (fail)
              go_wp2
              go_ret
              exact ⟨by rw [← HE.out]; simp [cat_arr], HB2.out.call (Bl.drewN _ _)⟩
            · have HE : Hid ([40] ++ opName o ++ [32] ++ z ++ [41] = u) := by
                show _ = _
                have h' : ¬ (o = 19 ∨ o = 20) := by omega
                have h'' : ¬ (o = 17 ∨ o = 18) := by omega
                rw [← hu.out]
                simp [tellT, hmn, nestT, join_two, h', h'']
              obtain ⟨bs, cps, rfl, -⟩ := id HS3.out
              obtain ⟨mm, hmm, hb2⟩ : ∃ mm : Int, Hid ((opMany o : Int) = mm) ∧ (mm == 2) = false := ⟨_, rfl, by rw [hmn]; rfl⟩
              have hol := op_len o
              have HYI : Hid (∀ w, Calls Tryz.prog 47 #[.int .i64 o] w fun e w' => e = .returned (.agg #[S (opName o), .int .i64 mm, .int .i64 (opOf o), .int .i64 (opMakes o)]) ∧ Bl w w') := fun w => by rw [← hmm.out]; exact yInfo_any o w
              go_wp2_with fail
              refine (HYI.out _).mono ?_
              rintro e w1 ⟨rfl, hb1⟩
              have HB1 := Lib.hid (HB.out.call hb1)
              have HX1 := Lib.hid ((hb1.block W.heap.size hzr).trans HX.out)
              have hz1 := (Array.getElem?_eq_some_iff.1 HX1.out).1
              have HI := Lib.hid (heap_new w1 (.cells #[S (opName o), .int .i64 mm, .int .i64 (opOf o), .int .i64 (opMakes o)] 88))
              have HX2 := Lib.hid ((heap_old w1 (.cells #[S (opName o), .int .i64 mm, .int .i64 (opOf o), .int .i64 (opMakes o)] 88) hz1).trans HX1.out)
              have HB2 := Lib.hid (HB1.out.alloc (.cells #[S (opName o), .int .i64 mm, .int .i64 (opOf o), .int .i64 (opMakes o)] 88))
              have HS2 := Lib.hid ((HS3.out.bl hb1).bl ((Bl.refl w1).alloc (.cells #[S (opName o), .int .i64 mm, .int .i64 (opOf o), .int .i64 (opMakes o)] 88)))
              clear e0 e1 e2 e3 e4 e5 e6 e7 hmn
              obtain ⟨⟨-, -, -, -, -, -, e6, -⟩, -⟩ := eight HX1.out
              go_wp2_with fail
              obtain ⟨b', cap', eb, -, -, hc⟩ := HS2.out
              have c0 := hc 0 (by simp)
              skip
              have i0 : (w1.alloc (.cells #[S (opName o), .int .i64 mm, .int .i64 (opOf o), .int .i64 (opMakes o)] 88)).cell? ⟨w1.heap.size, 0, none⟩ = some (S (opName o)) := by rw [Lib.cell_of_heap HI.out]; rfl
              simp only [List.getElem_cons_zero] at c0
              clear hc e6
              obtain ⟨rfl, rfl⟩ : bs = b' ∧ cps = cap' := by simpa using eb
              go_quiet (fail)
              go_wp2
              go_ret
              exact ⟨by rw [← HE.out]; simp [cat_arr], HB2.out.call (Bl.drewN _ _)⟩
        · have HE : Hid (sCoalesce ++ [40] ++ z ++ [41] = u) := by show _ = _; rw [← hu.out, HZ'.out]; rfl
          go_wp2
          go_ret
          exact ⟨by rw [← HE.out]; simp [cat_arr, sCoalesce], HB.out⟩
        · by_cases h0 : (args.length : Int) = 0
          · have hl : ls = [] := List.eq_nil_of_length_eq_zero (by have := HML.out; omega)
            have HE : Hid (sCount ++ [40] ++ [42] ++ [41] = u) := by
              show _ = _
              have h := HR.out.right
              have hz : args.isEmpty = true := by cases args with | nil => rfl | cons _ _ => simp at h0; omega
              simp [rightF, hz] at h
              have hn : nm = sCount := by
                rcases h.2 with h2 | h2
                · omega
                · exact h2
              rw [← hu.out, hl, hn]
              rfl
            have hb : ((args.length : Int) == 0) = true := by simpa using h0
            clear h0
            go_wp2
            go_ret
            exact ⟨by rw [← HE.out] <;> rfl, HB.out⟩
          · have hln : nm.length ≤ 10000 := by
              have h := HR.out.right
              simp [rightF] at h
              exact sum_len (by simpa using h.1.2)
            have HE : Hid (nm ++ [40] ++ z ++ [41] = u) := by
              show _ = _
              have hl : ls ≠ [] := fun h => by have := HML.out; rw [h] at this; simp at this; omega
              rw [← hu.out, HZ'.out]
              simp [tellT, callT, hl]
            have hb : ((args.length : Int) == 0) = false := by simpa using h0
            clear h0
            go_wp2
            go_ret
            exact ⟨by rw [← HE.out]; simp [cat_arr], HB.out⟩
--END1
end Go.Proofs.YtepkfkfedmbmnaaGreatDoor
