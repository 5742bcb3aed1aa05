/- The program's or, and, cat, sum, product. The program's not, sign, comparison. -/
import Derived.Test.YtepkfkfedmbmnaaGreatDoorMA
namespace Go.Proofs.YtepkfkfedmbmnaaGreatDoor
open Go.RowKit
set_option maxRecDepth 100000

abbrev lvV : Value := .agg #[.func (.func 58) #[] #[], .func (.func 59) #[] #[], .func (.func 60) #[] #[], .func (.func 61) #[] #[], .func (.func 62) #[] #[], .func (.func 63) #[] #[]]
def lvC : Array Value := #[.func (.func 58) #[] #[], .func (.func 59) #[] #[], .func (.func 60) #[] #[], .func (.func 61) #[] #[], .func (.func 62) #[] #[], .func (.func 63) #[] #[]]
def lvZ : Array Value := #[.nilFunc, .nilFunc, .nilFunc, .nilFunc, .nilFunc, .nilFunc]
theorem lvInfo : (Tryz.prog.info? 77).map (·.size) = some 6 := by kernel_rfl
set_option maxHeartbeats 1000000 in
theorem elevels_any (w : World) : Calls Tryz.prog 37 #[] w fun e w' => e = .returned lvV ∧ Bl w w' := by
  have hzv : ∀ w, (zeroValue 77).run Tryz.prog w = .ok (.agg lvZ) w := fun _ => by kernel_rfl
  have hbd : ∀ w, Sem.run Tryz.prog (Instr.build 77 #[(0, .func (.func 58) #[] #[]), (1, .func (.func 59) #[] #[]), (2, .func (.func 60) #[] #[]), (3, .func (.func 61) #[] #[]), (4, .func (.func 62) #[] #[]), (5, .func (.func 63) #[] #[])]) w = .ok (.agg lvC) w := fun _ => by kernel_rfl
  go_enter Tryz.func37, Tryz.ntmps37
  go_wp2_with (first
    | (refine wpList_store_row rfl 77 (.tmp 0) (.tmp 1) rfl w.heap.size lvC rfl (by kernel_rfl) 77 lvZ (heap_new w _) lvInfo rfl (by kernel_rfl) ?_))
  have hW : ((w.alloc (.cells lvZ 77)).setRow w.heap.size lvC) = w.alloc (.cells lvC 77) := World.setRow_alloc_new w lvZ lvC 77
  refine bodyPost_ret (v := .agg lvC) (results_cell_row (p := 0) (ty := 77) rfl _ _ w.heap.size 77 lvC (0, 0) (.array 6 76) rfl ?_ (by kernel_rfl) rfl lvInfo) rfl ⟨rfl, by rw [hW]; exact (Bl.refl w).alloc _⟩
  exact (congrArg (fun W : World => W.heap[w.heap.size]?) hW).trans (heap_new w _)
theorem ints_new (W : World) {bs : Nat} (hb : bs < W.heap.size) (l : List Int) (cs : Array Value) (t : TypeId) (hcs : cs = (l.map fun o => Value.int .i64 o).toArray) (n cap b : Nat) (hn : n = l.length) (hw : b = W.heap.size) : IntsN bs (W.alloc (.cells cs t)) (.slice (some ⟨b, 0, none⟩) n cap) l := by
  subst hcs
  subst hn
  subst hw
  refine ⟨_, 0, cap, rfl, by omega, by simp, fun j hj => ?_⟩
  rw [Lib.cell_of_heap (heap_new W _)]
  simp [hj]

--BEGIN1
set_option maxHeartbeats 4000000 in
theorem eor_any {f : Nat} (IH : ∀ f', f' ≤ f → AllP f') {W : World} {bs g cap k d : Nat} {ts : List Tok} (h : Strm W bs g cap ts k) (hT : TokOK ts) (hd : d ≤ 60)
    (hne : ((runR ts f (.rd (0 + 1) k d)).bind fun k1 x => runR ts f (.lp 0 k1 d x)) ≠ .out) :
    Calls Tryz.prog 58 #[RV bs, .int .i64 (d : Int)] W (XPost bs g cap ts W ((runR ts f (.rd (0 + 1) k d)).bind fun k1 x => runR ts f (.lp 0 k1 d x))) := by
  have H := Lib.hid h
  have HI := Lib.hid IH
  have HT := Lib.hid hT
  obtain ⟨R, HR0⟩ : ∃ R, Hid (R = (runR ts f (.rd (0 + 1) k d)).bind fun k1 x => runR ts f (.lp 0 k1 d x)) := ⟨_, rfl⟩
  rw [← HR0.out] at hne ⊢
  have HNE := Lib.hid hne
  have hbl := h.lt'
  have hgl := h.gl
  have HF0 := Lib.hid (FrP.start W bs)
  have HB0 := Lib.hid (((Bl.refl W).alloc (.cells #[.pointer (some ⟨bs, 0, none⟩)] 80)).alloc (.cells #[.int .i64 0, .int .i64 0, .int .i64 0, S [], S [], S [], .int .i64 0, .slice none 0 0] 30))
  clear h IH hT hne
  go_enter Tryz.func58, Tryz.ntmps58
  go_wp2_with fail
  refine (wp_region_sd (fun B => B.heap[W.heap.size]? = some (.cells #[.pointer (some ⟨bs, 0, none⟩)] 80 (0, 0))) ((.take 0 (.take 1 (.two 2 4 (.take 3 (.one 4 (.one 5 (.one 6 .done)))) (.one 2 (.take 3 (.one 5 (.one 6 .done)))))))) (by kernel_rfl) (by kernel_rfl) (by kernel_rfl) (fun c a d v w h => by cases d <;> exact h) ((HF0.out.bl ((Bl.refl _).drew)).r) ?_) -- wp_region_sc 
  intro wd HWD hHeld
  refine sc_take' rfl (by rfl) (by intro w hSw; (try dsimp only at hSw); have a0 := cells1 hSw; go_simp; (try (first | with_reducible rfl | rfl))) ?_; (try simp only [Act.put, List.setIfInBounds_toArray, List.set_cons_zero, List.set_cons_succ])
  refine sc_take' rfl (by rfl) (by intro w hSw; (try dsimp only at hSw); have a0 := cells1 hSw; go_simp; (try (first | with_reducible rfl | rfl))) ?_; (try simp only [Act.put, List.setIfInBounds_toArray, List.set_cons_zero, List.set_cons_succ])
  refine sc_two ?_ ?_
  focus
    refine sc_call' rfl (fun K hK => ?_); go_simp; ((with_reducible refine (elevels_any _).mono ?_); rintro e w2 ⟨rfl, hb2⟩; have HB2 := Lib.hid hb2; have HF2 : Hid (FrP W w2 bs) := (by first | exact (HF0.out.bl HWD.out).bl hb2 | exact ((HF0.out.bl HWD.out).bl ((Bl.refl _).alloc _)).bl hb2); have HW2 : Hid (Bl W w2) := (by first | exact (HB0.out.call HWD.out).call hb2 | exact ((HB0.out.call HWD.out).alloc _).call hb2); have hz2 := HF2.out.size; clear hb2); go_wp2_with fail; refine hK.out _ _ ((by first | exact HF5.out.r | exact HF2.out.r)) (fun hHeld2 => ?_); clear hHeld hK K; have hHeld := hHeld2; clear hHeld2
    refine sc_take' rfl (by rfl) (by intro w hSw; (try dsimp only at hSw); have a0 := cells1 hSw; go_simp; (try (first | with_reducible rfl | rfl))) ?_; (try simp only [Act.put, List.setIfInBounds_toArray, List.set_cons_zero, List.set_cons_succ])
    refine sc_call' rfl (fun K hK => ?_); go_simp; refine hK.out _ _ ((by first | exact (HF2.out.bl ((Bl.refl _).alloc _)).r | exact ((HF0.out.bl HWD.out).bl ((Bl.refl _).alloc _)).r)) (fun hHeld2 => ?_); clear hHeld hK K; have hHeld := hHeld2; clear hHeld2
    refine sc_call' rfl (fun K hK => ?_); go_simp; (refine (eseveral_any HI.out (n := 0) (by first | exact H.out.bl (HW2.out.alloc _) | exact H.out.bl HW2.out) HT.out hd (by omega) _ rfl [14] rfl _ (by first | exact ints_new w2 (by omega) [14] _ _ rfl _ _ _ rfl (by simp) | exact (ints_new wd (by have := HWD.out.size; simp at this; omega) [14] _ _ rfl _ _ _ rfl (by simp)).bl HB2.out) (by rw [← HR0.out]; exact HNE.out)).mono ?_; rw [← HR0.out]; intro e w5 hp; obtain ⟨hg5, k5, hs5, hcase⟩ := hp.open; clear hp; have HF5 := Lib.hid (show FrP W w5 bs from by first | exact (HF2.out.bl ((Bl.refl _).alloc _)).next hbl hg5 | exact HF2.out.next hbl hg5); have HS5 := Lib.hid hs5; rcases hcase with ⟨yk, y1, y2, y3, yt, yn, yo, ya, ysv, ycv, hr5, hA, rfl⟩ | ⟨c, hc, hr5, rfl⟩; rotate_left; (· go_wp2; exact ⟨rfl, XPost.no HF5.out.grown HS5.out hc (by first | rfl | exact hr5)⟩); have HR5 := Lib.hid hr5; have HA5 := Lib.hid (show ReadsP (fun b => W.heap.size + 2 ≤ b) w5 (.slice ysv ya.length ycv) ya from hA.of fun b _ (hb : _ ≤ b) => by (try simp at hb); omega); clear hg5 hs5 hr5 hA); go_wp2_with fail; refine hK.out _ _ ((by first | exact HF5.out.r | exact HF2.out.r)) (fun hHeld2 => ?_); clear hHeld hK K; have hHeld := hHeld2; clear hHeld2
    obtain ⟨⟨e0, e1, e2, e3, e4, e5, e6, e7⟩, f0, f1, f3, f4, f5, f6, f7, f8⟩ := eight HF5.out.x
    refine sc_call' rfl (fun K hK => ?_); go_simp; refine hK.out _ _ (((set8_other _ (b := W.heap.size + 1) (by omega) _ _ _ _ _ _ _ _).trans HF5.out.r)) (fun hHeld2 => ?_); clear hHeld hK K; have hHeld := hHeld2; clear hHeld2
    clear e0 e1 e2 e3 e4 e5 e6 e7 f0 f1 f3 f4 f5 f6 f7 f8
    refine sc_nil ?_
    go_wp2
    obtain ⟨⟨q0, q1, q2, q3, q4, q5, q6, q7⟩, -⟩ := eight (set8_heap HF5.out.x (.int .i64 yk) (.int .i64 y1) (.int .i64 y2) (S y3) (S yt) (S yn) (.int .i64 yo) (.slice ysv ya.length ycv))
    exact bodyPost_ret (v := EV yk (y1, y2, y3) yt yn yo (.slice ysv ya.length ycv)) (by simp [results, Tryz.results58, go_sem, q0, q1, q2, q3, q4, q5, q6, q7]) rfl (HF5.out.fin hbl hgl HS5.out HA5.out HR5.out)
  rotate_left 1
  focus
    refine sc_call' rfl (fun K hK => ?_); go_simp; refine hK.out _ _ ((by first | exact (HF2.out.bl ((Bl.refl _).alloc _)).r | exact ((HF0.out.bl HWD.out).bl ((Bl.refl _).alloc _)).r)) (fun hHeld2 => ?_); clear hHeld hK K; have hHeld := hHeld2; clear hHeld2
    refine sc_call' rfl (fun K hK => ?_); go_simp; ((with_reducible refine (elevels_any _).mono ?_); rintro e w2 ⟨rfl, hb2⟩; have HB2 := Lib.hid hb2; have HF2 : Hid (FrP W w2 bs) := (by first | exact (HF0.out.bl HWD.out).bl hb2 | exact ((HF0.out.bl HWD.out).bl ((Bl.refl _).alloc _)).bl hb2); have HW2 : Hid (Bl W w2) := (by first | exact (HB0.out.call HWD.out).call hb2 | exact ((HB0.out.call HWD.out).alloc _).call hb2); have hz2 := HF2.out.size; clear hb2); go_wp2_with fail; refine hK.out _ _ ((by first | exact HF5.out.r | exact HF2.out.r)) (fun hHeld2 => ?_); clear hHeld hK K; have hHeld := hHeld2; clear hHeld2
    refine sc_take' rfl (by rfl) (by intro w hSw; (try dsimp only at hSw); have a0 := cells1 hSw; go_simp; (try (first | with_reducible rfl | rfl))) ?_; (try simp only [Act.put, List.setIfInBounds_toArray, List.set_cons_zero, List.set_cons_succ])
    refine sc_call' rfl (fun K hK => ?_); go_simp; (refine (eseveral_any HI.out (n := 0) (by first | exact H.out.bl (HW2.out.alloc _) | exact H.out.bl HW2.out) HT.out hd (by omega) _ rfl [14] rfl _ (by first | exact ints_new w2 (by omega) [14] _ _ rfl _ _ _ rfl (by simp) | exact (ints_new wd (by have := HWD.out.size; simp at this; omega) [14] _ _ rfl _ _ _ rfl (by simp)).bl HB2.out) (by rw [← HR0.out]; exact HNE.out)).mono ?_; rw [← HR0.out]; intro e w5 hp; obtain ⟨hg5, k5, hs5, hcase⟩ := hp.open; clear hp; have HF5 := Lib.hid (show FrP W w5 bs from by first | exact (HF2.out.bl ((Bl.refl _).alloc _)).next hbl hg5 | exact HF2.out.next hbl hg5); have HS5 := Lib.hid hs5; rcases hcase with ⟨yk, y1, y2, y3, yt, yn, yo, ya, ysv, ycv, hr5, hA, rfl⟩ | ⟨c, hc, hr5, rfl⟩; rotate_left; (· go_wp2; exact ⟨rfl, XPost.no HF5.out.grown HS5.out hc (by first | rfl | exact hr5)⟩); have HR5 := Lib.hid hr5; have HA5 := Lib.hid (show ReadsP (fun b => W.heap.size + 2 ≤ b) w5 (.slice ysv ya.length ycv) ya from hA.of fun b _ (hb : _ ≤ b) => by (try simp at hb); omega); clear hg5 hs5 hr5 hA); go_wp2_with fail; refine hK.out _ _ ((by first | exact HF5.out.r | exact HF2.out.r)) (fun hHeld2 => ?_); clear hHeld hK K; have hHeld := hHeld2; clear hHeld2
    obtain ⟨⟨e0, e1, e2, e3, e4, e5, e6, e7⟩, f0, f1, f3, f4, f5, f6, f7, f8⟩ := eight HF5.out.x
    refine sc_call' rfl (fun K hK => ?_); go_simp; refine hK.out _ _ (((set8_other _ (b := W.heap.size + 1) (by omega) _ _ _ _ _ _ _ _).trans HF5.out.r)) (fun hHeld2 => ?_); clear hHeld hK K; have hHeld := hHeld2; clear hHeld2
    clear e0 e1 e2 e3 e4 e5 e6 e7 f0 f1 f3 f4 f5 f6 f7 f8
    refine sc_nil ?_
    go_wp2
    obtain ⟨⟨q0, q1, q2, q3, q4, q5, q6, q7⟩, -⟩ := eight (set8_heap HF5.out.x (.int .i64 yk) (.int .i64 y1) (.int .i64 y2) (S y3) (S yt) (S yn) (.int .i64 yo) (.slice ysv ya.length ycv))
    exact bodyPost_ret (v := EV yk (y1, y2, y3) yt yn yo (.slice ysv ya.length ycv)) (by simp [results, Tryz.results58, go_sem, q0, q1, q2, q3, q4, q5, q6, q7]) rfl (HF5.out.fin hbl hgl HS5.out HA5.out HR5.out)
set_option maxHeartbeats 4000000 in
theorem eand_any {f : Nat} (IH : ∀ f', f' ≤ f → AllP f') {W : World} {bs g cap k d : Nat} {ts : List Tok} (h : Strm W bs g cap ts k) (hT : TokOK ts) (hd : d ≤ 60)
    (hne : ((runR ts f (.rd (1 + 1) k d)).bind fun k1 x => runR ts f (.lp 1 k1 d x)) ≠ .out) :
    Calls Tryz.prog 59 #[RV bs, .int .i64 (d : Int)] W (XPost bs g cap ts W ((runR ts f (.rd (1 + 1) k d)).bind fun k1 x => runR ts f (.lp 1 k1 d x))) := by
  have H := Lib.hid h
  have HI := Lib.hid IH
  have HT := Lib.hid hT
  obtain ⟨R, HR0⟩ : ∃ R, Hid (R = (runR ts f (.rd (1 + 1) k d)).bind fun k1 x => runR ts f (.lp 1 k1 d x)) := ⟨_, rfl⟩
  rw [← HR0.out] at hne ⊢
  have HNE := Lib.hid hne
  have hbl := h.lt'
  have hgl := h.gl
  have HF0 := Lib.hid (FrP.start W bs)
  have HB0 := Lib.hid (((Bl.refl W).alloc (.cells #[.pointer (some ⟨bs, 0, none⟩)] 80)).alloc (.cells #[.int .i64 0, .int .i64 0, .int .i64 0, S [], S [], S [], .int .i64 0, .slice none 0 0] 30))
  clear h IH hT hne
  go_enter Tryz.func59, Tryz.ntmps59
  go_wp2_with fail
  refine (wp_region_sd (fun B => B.heap[W.heap.size]? = some (.cells #[.pointer (some ⟨bs, 0, none⟩)] 80 (0, 0))) ((.take 0 (.take 1 (.two 2 4 (.take 3 (.one 4 (.one 5 (.one 6 .done)))) (.one 2 (.take 3 (.one 5 (.one 6 .done)))))))) (by kernel_rfl) (by kernel_rfl) (by kernel_rfl) (fun c a d v w h => by cases d <;> exact h) ((HF0.out.bl ((Bl.refl _).drew)).r) ?_) -- wp_region_sc 
  intro wd HWD hHeld
  refine sc_take' rfl (by rfl) (by intro w hSw; (try dsimp only at hSw); have a0 := cells1 hSw; go_simp; (try (first | with_reducible rfl | rfl))) ?_; (try simp only [Act.put, List.setIfInBounds_toArray, List.set_cons_zero, List.set_cons_succ])
  refine sc_take' rfl (by rfl) (by intro w hSw; (try dsimp only at hSw); have a0 := cells1 hSw; go_simp; (try (first | with_reducible rfl | rfl))) ?_; (try simp only [Act.put, List.setIfInBounds_toArray, List.set_cons_zero, List.set_cons_succ])
  refine sc_two ?_ ?_
  focus
    refine sc_call' rfl (fun K hK => ?_); go_simp; ((with_reducible refine (elevels_any _).mono ?_); rintro e w2 ⟨rfl, hb2⟩; have HB2 := Lib.hid hb2; have HF2 : Hid (FrP W w2 bs) := (by first | exact (HF0.out.bl HWD.out).bl hb2 | exact ((HF0.out.bl HWD.out).bl ((Bl.refl _).alloc _)).bl hb2); have HW2 : Hid (Bl W w2) := (by first | exact (HB0.out.call HWD.out).call hb2 | exact ((HB0.out.call HWD.out).alloc _).call hb2); have hz2 := HF2.out.size; clear hb2); go_wp2_with fail; refine hK.out _ _ ((by first | exact HF5.out.r | exact HF2.out.r)) (fun hHeld2 => ?_); clear hHeld hK K; have hHeld := hHeld2; clear hHeld2
    refine sc_take' rfl (by rfl) (by intro w hSw; (try dsimp only at hSw); have a0 := cells1 hSw; go_simp; (try (first | with_reducible rfl | rfl))) ?_; (try simp only [Act.put, List.setIfInBounds_toArray, List.set_cons_zero, List.set_cons_succ])
    refine sc_call' rfl (fun K hK => ?_); go_simp; refine hK.out _ _ ((by first | exact (HF2.out.bl ((Bl.refl _).alloc _)).r | exact ((HF0.out.bl HWD.out).bl ((Bl.refl _).alloc _)).r)) (fun hHeld2 => ?_); clear hHeld hK K; have hHeld := hHeld2; clear hHeld2
    refine sc_call' rfl (fun K hK => ?_); go_simp; (refine (eseveral_any HI.out (n := 1) (by first | exact H.out.bl (HW2.out.alloc _) | exact H.out.bl HW2.out) HT.out hd (by omega) _ rfl [13] rfl _ (by first | exact ints_new w2 (by omega) [13] _ _ rfl _ _ _ rfl (by simp) | exact (ints_new wd (by have := HWD.out.size; simp at this; omega) [13] _ _ rfl _ _ _ rfl (by simp)).bl HB2.out) (by rw [← HR0.out]; exact HNE.out)).mono ?_; rw [← HR0.out]; intro e w5 hp; obtain ⟨hg5, k5, hs5, hcase⟩ := hp.open; clear hp; have HF5 := Lib.hid (show FrP W w5 bs from by first | exact (HF2.out.bl ((Bl.refl _).alloc _)).next hbl hg5 | exact HF2.out.next hbl hg5); have HS5 := Lib.hid hs5; rcases hcase with ⟨yk, y1, y2, y3, yt, yn, yo, ya, ysv, ycv, hr5, hA, rfl⟩ | ⟨c, hc, hr5, rfl⟩; rotate_left; (· go_wp2; exact ⟨rfl, XPost.no HF5.out.grown HS5.out hc (by first | rfl | exact hr5)⟩); have HR5 := Lib.hid hr5; have HA5 := Lib.hid (show ReadsP (fun b => W.heap.size + 2 ≤ b) w5 (.slice ysv ya.length ycv) ya from hA.of fun b _ (hb : _ ≤ b) => by (try simp at hb); omega); clear hg5 hs5 hr5 hA); go_wp2_with fail; refine hK.out _ _ ((by first | exact HF5.out.r | exact HF2.out.r)) (fun hHeld2 => ?_); clear hHeld hK K; have hHeld := hHeld2; clear hHeld2
    obtain ⟨⟨e0, e1, e2, e3, e4, e5, e6, e7⟩, f0, f1, f3, f4, f5, f6, f7, f8⟩ := eight HF5.out.x
    refine sc_call' rfl (fun K hK => ?_); go_simp; refine hK.out _ _ (((set8_other _ (b := W.heap.size + 1) (by omega) _ _ _ _ _ _ _ _).trans HF5.out.r)) (fun hHeld2 => ?_); clear hHeld hK K; have hHeld := hHeld2; clear hHeld2
    clear e0 e1 e2 e3 e4 e5 e6 e7 f0 f1 f3 f4 f5 f6 f7 f8
    refine sc_nil ?_
    go_wp2
    obtain ⟨⟨q0, q1, q2, q3, q4, q5, q6, q7⟩, -⟩ := eight (set8_heap HF5.out.x (.int .i64 yk) (.int .i64 y1) (.int .i64 y2) (S y3) (S yt) (S yn) (.int .i64 yo) (.slice ysv ya.length ycv))
    exact bodyPost_ret (v := EV yk (y1, y2, y3) yt yn yo (.slice ysv ya.length ycv)) (by simp [results, Tryz.results59, go_sem, q0, q1, q2, q3, q4, q5, q6, q7]) rfl (HF5.out.fin hbl hgl HS5.out HA5.out HR5.out)
  rotate_left 1
  focus
    refine sc_call' rfl (fun K hK => ?_); go_simp; refine hK.out _ _ ((by first | exact (HF2.out.bl ((Bl.refl _).alloc _)).r | exact ((HF0.out.bl HWD.out).bl ((Bl.refl _).alloc _)).r)) (fun hHeld2 => ?_); clear hHeld hK K; have hHeld := hHeld2; clear hHeld2
    refine sc_call' rfl (fun K hK => ?_); go_simp; ((with_reducible refine (elevels_any _).mono ?_); rintro e w2 ⟨rfl, hb2⟩; have HB2 := Lib.hid hb2; have HF2 : Hid (FrP W w2 bs) := (by first | exact (HF0.out.bl HWD.out).bl hb2 | exact ((HF0.out.bl HWD.out).bl ((Bl.refl _).alloc _)).bl hb2); have HW2 : Hid (Bl W w2) := (by first | exact (HB0.out.call HWD.out).call hb2 | exact ((HB0.out.call HWD.out).alloc _).call hb2); have hz2 := HF2.out.size; clear hb2); go_wp2_with fail; refine hK.out _ _ ((by first | exact HF5.out.r | exact HF2.out.r)) (fun hHeld2 => ?_); clear hHeld hK K; have hHeld := hHeld2; clear hHeld2
    refine sc_take' rfl (by rfl) (by intro w hSw; (try dsimp only at hSw); have a0 := cells1 hSw; go_simp; (try (first | with_reducible rfl | rfl))) ?_; (try simp only [Act.put, List.setIfInBounds_toArray, List.set_cons_zero, List.set_cons_succ])
    refine sc_call' rfl (fun K hK => ?_); go_simp; (refine (eseveral_any HI.out (n := 1) (by first | exact H.out.bl (HW2.out.alloc _) | exact H.out.bl HW2.out) HT.out hd (by omega) _ rfl [13] rfl _ (by first | exact ints_new w2 (by omega) [13] _ _ rfl _ _ _ rfl (by simp) | exact (ints_new wd (by have := HWD.out.size; simp at this; omega) [13] _ _ rfl _ _ _ rfl (by simp)).bl HB2.out) (by rw [← HR0.out]; exact HNE.out)).mono ?_; rw [← HR0.out]; intro e w5 hp; obtain ⟨hg5, k5, hs5, hcase⟩ := hp.open; clear hp; have HF5 := Lib.hid (show FrP W w5 bs from by first | exact (HF2.out.bl ((Bl.refl _).alloc _)).next hbl hg5 | exact HF2.out.next hbl hg5); have HS5 := Lib.hid hs5; rcases hcase with ⟨yk, y1, y2, y3, yt, yn, yo, ya, ysv, ycv, hr5, hA, rfl⟩ | ⟨c, hc, hr5, rfl⟩; rotate_left; (· go_wp2; exact ⟨rfl, XPost.no HF5.out.grown HS5.out hc (by first | rfl | exact hr5)⟩); have HR5 := Lib.hid hr5; have HA5 := Lib.hid (show ReadsP (fun b => W.heap.size + 2 ≤ b) w5 (.slice ysv ya.length ycv) ya from hA.of fun b _ (hb : _ ≤ b) => by (try simp at hb); omega); clear hg5 hs5 hr5 hA); go_wp2_with fail; refine hK.out _ _ ((by first | exact HF5.out.r | exact HF2.out.r)) (fun hHeld2 => ?_); clear hHeld hK K; have hHeld := hHeld2; clear hHeld2
    obtain ⟨⟨e0, e1, e2, e3, e4, e5, e6, e7⟩, f0, f1, f3, f4, f5, f6, f7, f8⟩ := eight HF5.out.x
    refine sc_call' rfl (fun K hK => ?_); go_simp; refine hK.out _ _ (((set8_other _ (b := W.heap.size + 1) (by omega) _ _ _ _ _ _ _ _).trans HF5.out.r)) (fun hHeld2 => ?_); clear hHeld hK K; have hHeld := hHeld2; clear hHeld2
    clear e0 e1 e2 e3 e4 e5 e6 e7 f0 f1 f3 f4 f5 f6 f7 f8
    refine sc_nil ?_
    go_wp2
    obtain ⟨⟨q0, q1, q2, q3, q4, q5, q6, q7⟩, -⟩ := eight (set8_heap HF5.out.x (.int .i64 yk) (.int .i64 y1) (.int .i64 y2) (S y3) (S yt) (S yn) (.int .i64 yo) (.slice ysv ya.length ycv))
    exact bodyPost_ret (v := EV yk (y1, y2, y3) yt yn yo (.slice ysv ya.length ycv)) (by simp [results, Tryz.results59, go_sem, q0, q1, q2, q3, q4, q5, q6, q7]) rfl (HF5.out.fin hbl hgl HS5.out HA5.out HR5.out)
set_option maxHeartbeats 4000000 in
theorem ecat_any {f : Nat} (IH : ∀ f', f' ≤ f → AllP f') {W : World} {bs g cap k d : Nat} {ts : List Tok} (h : Strm W bs g cap ts k) (hT : TokOK ts) (hd : d ≤ 60)
    (hne : ((runR ts f (.rd (4 + 1) k d)).bind fun k1 x => runR ts f (.lp 4 k1 d x)) ≠ .out) :
    Calls Tryz.prog 62 #[RV bs, .int .i64 (d : Int)] W (XPost bs g cap ts W ((runR ts f (.rd (4 + 1) k d)).bind fun k1 x => runR ts f (.lp 4 k1 d x))) := by
  have H := Lib.hid h
  have HI := Lib.hid IH
  have HT := Lib.hid hT
  obtain ⟨R, HR0⟩ : ∃ R, Hid (R = (runR ts f (.rd (4 + 1) k d)).bind fun k1 x => runR ts f (.lp 4 k1 d x)) := ⟨_, rfl⟩
  rw [← HR0.out] at hne ⊢
  have HNE := Lib.hid hne
  have hbl := h.lt'
  have hgl := h.gl
  have HF0 := Lib.hid (FrP.start W bs)
  have HB0 := Lib.hid (((Bl.refl W).alloc (.cells #[.pointer (some ⟨bs, 0, none⟩)] 80)).alloc (.cells #[.int .i64 0, .int .i64 0, .int .i64 0, S [], S [], S [], .int .i64 0, .slice none 0 0] 30))
  clear h IH hT hne
  go_enter Tryz.func62, Tryz.ntmps62
  go_wp2_with fail
  refine (wp_region_sd (fun B => B.heap[W.heap.size]? = some (.cells #[.pointer (some ⟨bs, 0, none⟩)] 80 (0, 0))) ((.take 0 (.take 1 (.two 2 4 (.take 3 (.one 4 (.one 5 (.one 6 .done)))) (.one 2 (.take 3 (.one 5 (.one 6 .done)))))))) (by kernel_rfl) (by kernel_rfl) (by kernel_rfl) (fun c a d v w h => by cases d <;> exact h) ((HF0.out.bl ((Bl.refl _).drew)).r) ?_) -- wp_region_sc 
  intro wd HWD hHeld
  refine sc_take' rfl (by rfl) (by intro w hSw; (try dsimp only at hSw); have a0 := cells1 hSw; go_simp; (try (first | with_reducible rfl | rfl))) ?_; (try simp only [Act.put, List.setIfInBounds_toArray, List.set_cons_zero, List.set_cons_succ])
  refine sc_take' rfl (by rfl) (by intro w hSw; (try dsimp only at hSw); have a0 := cells1 hSw; go_simp; (try (first | with_reducible rfl | rfl))) ?_; (try simp only [Act.put, List.setIfInBounds_toArray, List.set_cons_zero, List.set_cons_succ])
  refine sc_two ?_ ?_
  focus
    refine sc_call' rfl (fun K hK => ?_); go_simp; ((with_reducible refine (elevels_any _).mono ?_); rintro e w2 ⟨rfl, hb2⟩; have HB2 := Lib.hid hb2; have HF2 : Hid (FrP W w2 bs) := (by first | exact (HF0.out.bl HWD.out).bl hb2 | exact ((HF0.out.bl HWD.out).bl ((Bl.refl _).alloc _)).bl hb2); have HW2 : Hid (Bl W w2) := (by first | exact (HB0.out.call HWD.out).call hb2 | exact ((HB0.out.call HWD.out).alloc _).call hb2); have hz2 := HF2.out.size; clear hb2); go_wp2_with fail; refine hK.out _ _ ((by first | exact HF5.out.r | exact HF2.out.r)) (fun hHeld2 => ?_); clear hHeld hK K; have hHeld := hHeld2; clear hHeld2
    refine sc_take' rfl (by rfl) (by intro w hSw; (try dsimp only at hSw); have a0 := cells1 hSw; go_simp; (try (first | with_reducible rfl | rfl))) ?_; (try simp only [Act.put, List.setIfInBounds_toArray, List.set_cons_zero, List.set_cons_succ])
    refine sc_call' rfl (fun K hK => ?_); go_simp; refine hK.out _ _ ((by first | exact (HF2.out.bl ((Bl.refl _).alloc _)).r | exact ((HF0.out.bl HWD.out).bl ((Bl.refl _).alloc _)).r)) (fun hHeld2 => ?_); clear hHeld hK K; have hHeld := hHeld2; clear hHeld2
    refine sc_call' rfl (fun K hK => ?_); go_simp; (refine (eseveral_any HI.out (n := 4) (by first | exact H.out.bl (HW2.out.alloc _) | exact H.out.bl HW2.out) HT.out hd (by omega) _ rfl [6] rfl _ (by first | exact ints_new w2 (by omega) [6] _ _ rfl _ _ _ rfl (by simp) | exact (ints_new wd (by have := HWD.out.size; simp at this; omega) [6] _ _ rfl _ _ _ rfl (by simp)).bl HB2.out) (by rw [← HR0.out]; exact HNE.out)).mono ?_; rw [← HR0.out]; intro e w5 hp; obtain ⟨hg5, k5, hs5, hcase⟩ := hp.open; clear hp; have HF5 := Lib.hid (show FrP W w5 bs from by first | exact (HF2.out.bl ((Bl.refl _).alloc _)).next hbl hg5 | exact HF2.out.next hbl hg5); have HS5 := Lib.hid hs5; rcases hcase with ⟨yk, y1, y2, y3, yt, yn, yo, ya, ysv, ycv, hr5, hA, rfl⟩ | ⟨c, hc, hr5, rfl⟩; rotate_left; (· go_wp2; exact ⟨rfl, XPost.no HF5.out.grown HS5.out hc (by first | rfl | exact hr5)⟩); have HR5 := Lib.hid hr5; have HA5 := Lib.hid (show ReadsP (fun b => W.heap.size + 2 ≤ b) w5 (.slice ysv ya.length ycv) ya from hA.of fun b _ (hb : _ ≤ b) => by (try simp at hb); omega); clear hg5 hs5 hr5 hA); go_wp2_with fail; refine hK.out _ _ ((by first | exact HF5.out.r | exact HF2.out.r)) (fun hHeld2 => ?_); clear hHeld hK K; have hHeld := hHeld2; clear hHeld2
    obtain ⟨⟨e0, e1, e2, e3, e4, e5, e6, e7⟩, f0, f1, f3, f4, f5, f6, f7, f8⟩ := eight HF5.out.x
    refine sc_call' rfl (fun K hK => ?_); go_simp; refine hK.out _ _ (((set8_other _ (b := W.heap.size + 1) (by omega) _ _ _ _ _ _ _ _).trans HF5.out.r)) (fun hHeld2 => ?_); clear hHeld hK K; have hHeld := hHeld2; clear hHeld2
    clear e0 e1 e2 e3 e4 e5 e6 e7 f0 f1 f3 f4 f5 f6 f7 f8
    refine sc_nil ?_
    go_wp2
    obtain ⟨⟨q0, q1, q2, q3, q4, q5, q6, q7⟩, -⟩ := eight (set8_heap HF5.out.x (.int .i64 yk) (.int .i64 y1) (.int .i64 y2) (S y3) (S yt) (S yn) (.int .i64 yo) (.slice ysv ya.length ycv))
    exact bodyPost_ret (v := EV yk (y1, y2, y3) yt yn yo (.slice ysv ya.length ycv)) (by simp [results, Tryz.results62, go_sem, q0, q1, q2, q3, q4, q5, q6, q7]) rfl (HF5.out.fin hbl hgl HS5.out HA5.out HR5.out)
  rotate_left 1
  focus
    refine sc_call' rfl (fun K hK => ?_); go_simp; refine hK.out _ _ ((by first | exact (HF2.out.bl ((Bl.refl _).alloc _)).r | exact ((HF0.out.bl HWD.out).bl ((Bl.refl _).alloc _)).r)) (fun hHeld2 => ?_); clear hHeld hK K; have hHeld := hHeld2; clear hHeld2
    refine sc_call' rfl (fun K hK => ?_); go_simp; ((with_reducible refine (elevels_any _).mono ?_); rintro e w2 ⟨rfl, hb2⟩; have HB2 := Lib.hid hb2; have HF2 : Hid (FrP W w2 bs) := (by first | exact (HF0.out.bl HWD.out).bl hb2 | exact ((HF0.out.bl HWD.out).bl ((Bl.refl _).alloc _)).bl hb2); have HW2 : Hid (Bl W w2) := (by first | exact (HB0.out.call HWD.out).call hb2 | exact ((HB0.out.call HWD.out).alloc _).call hb2); have hz2 := HF2.out.size; clear hb2); go_wp2_with fail; refine hK.out _ _ ((by first | exact HF5.out.r | exact HF2.out.r)) (fun hHeld2 => ?_); clear hHeld hK K; have hHeld := hHeld2; clear hHeld2
    refine sc_take' rfl (by rfl) (by intro w hSw; (try dsimp only at hSw); have a0 := cells1 hSw; go_simp; (try (first | with_reducible rfl | rfl))) ?_; (try simp only [Act.put, List.setIfInBounds_toArray, List.set_cons_zero, List.set_cons_succ])
    refine sc_call' rfl (fun K hK => ?_); go_simp; (refine (eseveral_any HI.out (n := 4) (by first | exact H.out.bl (HW2.out.alloc _) | exact H.out.bl HW2.out) HT.out hd (by omega) _ rfl [6] rfl _ (by first | exact ints_new w2 (by omega) [6] _ _ rfl _ _ _ rfl (by simp) | exact (ints_new wd (by have := HWD.out.size; simp at this; omega) [6] _ _ rfl _ _ _ rfl (by simp)).bl HB2.out) (by rw [← HR0.out]; exact HNE.out)).mono ?_; rw [← HR0.out]; intro e w5 hp; obtain ⟨hg5, k5, hs5, hcase⟩ := hp.open; clear hp; have HF5 := Lib.hid (show FrP W w5 bs from by first | exact (HF2.out.bl ((Bl.refl _).alloc _)).next hbl hg5 | exact HF2.out.next hbl hg5); have HS5 := Lib.hid hs5; rcases hcase with ⟨yk, y1, y2, y3, yt, yn, yo, ya, ysv, ycv, hr5, hA, rfl⟩ | ⟨c, hc, hr5, rfl⟩; rotate_left; (· go_wp2; exact ⟨rfl, XPost.no HF5.out.grown HS5.out hc (by first | rfl | exact hr5)⟩); have HR5 := Lib.hid hr5; have HA5 := Lib.hid (show ReadsP (fun b => W.heap.size + 2 ≤ b) w5 (.slice ysv ya.length ycv) ya from hA.of fun b _ (hb : _ ≤ b) => by (try simp at hb); omega); clear hg5 hs5 hr5 hA); go_wp2_with fail; refine hK.out _ _ ((by first | exact HF5.out.r | exact HF2.out.r)) (fun hHeld2 => ?_); clear hHeld hK K; have hHeld := hHeld2; clear hHeld2
    obtain ⟨⟨e0, e1, e2, e3, e4, e5, e6, e7⟩, f0, f1, f3, f4, f5, f6, f7, f8⟩ := eight HF5.out.x
    refine sc_call' rfl (fun K hK => ?_); go_simp; refine hK.out _ _ (((set8_other _ (b := W.heap.size + 1) (by omega) _ _ _ _ _ _ _ _).trans HF5.out.r)) (fun hHeld2 => ?_); clear hHeld hK K; have hHeld := hHeld2; clear hHeld2
    clear e0 e1 e2 e3 e4 e5 e6 e7 f0 f1 f3 f4 f5 f6 f7 f8
    refine sc_nil ?_
    go_wp2
    obtain ⟨⟨q0, q1, q2, q3, q4, q5, q6, q7⟩, -⟩ := eight (set8_heap HF5.out.x (.int .i64 yk) (.int .i64 y1) (.int .i64 y2) (S y3) (S yt) (S yn) (.int .i64 yo) (.slice ysv ya.length ycv))
    exact bodyPost_ret (v := EV yk (y1, y2, y3) yt yn yo (.slice ysv ya.length ycv)) (by simp [results, Tryz.results62, go_sem, q0, q1, q2, q3, q4, q5, q6, q7]) rfl (HF5.out.fin hbl hgl HS5.out HA5.out HR5.out)
--END1
--BEGIN2
set_option maxHeartbeats 4000000 in
theorem esum_any {f : Nat} (IH : ∀ f', f' ≤ f → AllP f') {W : World} {bs g cap k d : Nat} {ts : List Tok} (h : Strm W bs g cap ts k) (hT : TokOK ts) (hd : d ≤ 60)
    (hne : ((runR ts f (.rd (5 + 1) k d)).bind fun k1 x => runR ts f (.lp 5 k1 d x)) ≠ .out) :
    Calls Tryz.prog 63 #[RV bs, .int .i64 (d : Int)] W (XPost bs g cap ts W ((runR ts f (.rd (5 + 1) k d)).bind fun k1 x => runR ts f (.lp 5 k1 d x))) := by
  have H := Lib.hid h
  have HI := Lib.hid IH
  have HT := Lib.hid hT
  obtain ⟨R, HR0⟩ : ∃ R, Hid (R = (runR ts f (.rd (5 + 1) k d)).bind fun k1 x => runR ts f (.lp 5 k1 d x)) := ⟨_, rfl⟩
  rw [← HR0.out] at hne ⊢
  have HNE := Lib.hid hne
  have hbl := h.lt'
  have hgl := h.gl
  have HF0 := Lib.hid (FrP.start W bs)
  have HB0 := Lib.hid (((Bl.refl W).alloc (.cells #[.pointer (some ⟨bs, 0, none⟩)] 80)).alloc (.cells #[.int .i64 0, .int .i64 0, .int .i64 0, S [], S [], S [], .int .i64 0, .slice none 0 0] 30))
  clear h IH hT hne
  go_enter Tryz.func63, Tryz.ntmps63
  go_wp2_with fail
  refine (eseveral_any HI.out (n := 5) (H.out.bl (HB0.out.alloc _)) HT.out hd (by omega) _ rfl [1, 2] rfl _ (ints_new _ (by simp; omega) [1, 2] _ _ rfl _ _ _ rfl (by simp)) (by rw [← HR0.out]; exact HNE.out)).mono ?_
  rw [← HR0.out]
  intro e w5 hp
  obtain ⟨hg5, k5, hs5, hcase⟩ := hp.open
  clear hp
  have HF5 := Lib.hid ((HF0.out.bl ((Bl.refl _).alloc _)).next hbl hg5)
  have HS5 := Lib.hid hs5
  rcases hcase with ⟨yk, y1, y2, y3, yt, yn, yo, ya, ysv, ycv, hr5, hA, rfl⟩ | ⟨c, hc, hr5, rfl⟩
  · have HR5 := Lib.hid hr5
    have HA5 := Lib.hid (show ReadsP (fun b => W.heap.size + 2 ≤ b) w5 (.slice ysv ya.length ycv) ya from hA.of fun b _ (hb : _ ≤ b) => by (try simp at hb); omega)
    obtain ⟨⟨e0, e1, e2, e3, e4, e5, e6, e7⟩, f0, f1, f3, f4, f5, f6, f7, f8⟩ := eight HF5.out.x
    clear hg5 hs5 hr5 hA
    go_wp2
    -- the answer's place is loaded and answered
    obtain ⟨⟨q0, q1, q2, q3, q4, q5, q6, q7⟩, -⟩ := eight (set8_heap (HF5.out).x (.int .i64 yk) (.int .i64 y1) (.int .i64 y2) (S y3) (S yt) (S yn) (.int .i64 yo) (.slice ysv ya.length ycv))
    refine bodyPost_ret (v := .agg #[.int .i64 yk, .int .i64 y1, .int .i64 y2, S y3, S yt, S yn, .int .i64 yo, .slice ysv ya.length ycv]) (by simp [results, Tryz.results63, go_sem, q0, q1, q2, q3, q4, q5, q6, q7]) rfl ?_
    exact HF5.out.fin hbl hgl HS5.out HA5.out HR5.out
  · clear hg5 hs5
    go_wp2
    exact ⟨rfl, XPost.no HF5.out.grown HS5.out hc (by first | rfl | exact hr5)⟩
set_option maxHeartbeats 4000000 in
theorem eproduct_any {f : Nat} (IH : ∀ f', f' ≤ f → AllP f') {W : World} {bs g cap k d : Nat} {ts : List Tok} (h : Strm W bs g cap ts k) (hT : TokOK ts) (hd : d ≤ 60)
    (hne : ((runR ts f (.rd (6 + 1) k d)).bind fun k1 x => runR ts f (.lp 6 k1 d x)) ≠ .out) :
    Calls Tryz.prog 92 #[RV bs, .int .i64 (d : Int)] W (XPost bs g cap ts W ((runR ts f (.rd (6 + 1) k d)).bind fun k1 x => runR ts f (.lp 6 k1 d x))) := by
  have H := Lib.hid h
  have HI := Lib.hid IH
  have HT := Lib.hid hT
  obtain ⟨R, HR0⟩ : ∃ R, Hid (R = (runR ts f (.rd (6 + 1) k d)).bind fun k1 x => runR ts f (.lp 6 k1 d x)) := ⟨_, rfl⟩
  rw [← HR0.out] at hne ⊢
  have HNE := Lib.hid hne
  have hbl := h.lt'
  have hgl := h.gl
  have HF0 := Lib.hid (FrP.start W bs)
  have HB0 := Lib.hid (((Bl.refl W).alloc (.cells #[.pointer (some ⟨bs, 0, none⟩)] 80)).alloc (.cells #[.int .i64 0, .int .i64 0, .int .i64 0, S [], S [], S [], .int .i64 0, .slice none 0 0] 30))
  clear h IH hT hne
  go_enter Tryz.func92, Tryz.ntmps92
  go_wp2_with fail
  refine (eseveral_any HI.out (n := 6) (H.out.bl (HB0.out.alloc _)) HT.out hd (by omega) _ rfl [3, 4, 5] rfl _ (ints_new _ (by simp; omega) [3, 4, 5] _ _ rfl _ _ _ rfl (by simp)) (by rw [← HR0.out]; exact HNE.out)).mono ?_
  rw [← HR0.out]
  intro e w5 hp
  obtain ⟨hg5, k5, hs5, hcase⟩ := hp.open
  clear hp
  have HF5 := Lib.hid ((HF0.out.bl ((Bl.refl _).alloc _)).next hbl hg5)
  have HS5 := Lib.hid hs5
  rcases hcase with ⟨yk, y1, y2, y3, yt, yn, yo, ya, ysv, ycv, hr5, hA, rfl⟩ | ⟨c, hc, hr5, rfl⟩
  · have HR5 := Lib.hid hr5
    have HA5 := Lib.hid (show ReadsP (fun b => W.heap.size + 2 ≤ b) w5 (.slice ysv ya.length ycv) ya from hA.of fun b _ (hb : _ ≤ b) => by (try simp at hb); omega)
    obtain ⟨⟨e0, e1, e2, e3, e4, e5, e6, e7⟩, f0, f1, f3, f4, f5, f6, f7, f8⟩ := eight HF5.out.x
    clear hg5 hs5 hr5 hA
    go_wp2
    -- the answer's place is loaded and answered
    obtain ⟨⟨q0, q1, q2, q3, q4, q5, q6, q7⟩, -⟩ := eight (set8_heap (HF5.out).x (.int .i64 yk) (.int .i64 y1) (.int .i64 y2) (S y3) (S yt) (S yn) (.int .i64 yo) (.slice ysv ya.length ycv))
    refine bodyPost_ret (v := .agg #[.int .i64 yk, .int .i64 y1, .int .i64 y2, S y3, S yt, S yn, .int .i64 yo, .slice ysv ya.length ycv]) (by simp [results, Tryz.results92, go_sem, q0, q1, q2, q3, q4, q5, q6, q7]) rfl ?_
    exact HF5.out.fin hbl hgl HS5.out HA5.out HR5.out
  · clear hg5 hs5
    go_wp2
    exact ⟨rfl, XPost.no HF5.out.grown HS5.out hc (by first | rfl | exact hr5)⟩
--END2

end Go.Proofs.YtepkfkfedmbmnaaGreatDoor

namespace Go.Proofs.YtepkfkfedmbmnaaGreatDoor
open Go.RowKit
set_option maxRecDepth 100000

--BEGIN0
set_option maxHeartbeats 4000000 in
theorem edeeper_any {f n : Nat} (hR : RdP f n) {W : World} {bs g cap k d : Nat} {ts : List Tok} (h : Strm W bs g cap ts k) (hT : TokOK ts) (hd : d ≤ 60) (fn : FuncId) (hfn : fn = rdF n) (hne : deeperR d (runR ts f (.rd n k (d + 1))) ≠ .out) :
    Calls Tryz.prog 90 #[RV bs, .int .i64 (d : Int), .func (.func fn) #[] #[]] W (XPost bs g cap ts W (deeperR d (runR ts f (.rd n k (d + 1))))) := by
  subst hfn
  have hen := enters_rdF n
  have HR := Lib.hid hR
  clear hR
  by_cases hlt : d < 60
  · have e1 : deeperR d (runR ts f (.rd n k (d + 1))) = runR ts f (.rd n k (d + 1)) := if_pos hlt
    rw [e1] at hne ⊢
    have HN := Lib.hid hne
    have hl : (d : Int) < 60 := by omega
    have x1 : IntKind.i64.wrap ((d : Int) + 1) = (d : Int) + 1 := IntWalk.i64_in _ (by omega)
    clear e1 hne
    have H := Lib.hid h
    have HT := Lib.hid hT
    have hbl := h.lt'
    have hgl := h.gl
    have HF0 := Lib.hid (FrP.start W bs)
    have HB0 := Lib.hid (((Bl.refl W).alloc (.cells #[.pointer (some ⟨bs, 0, none⟩)] 80)).alloc (.cells #[.int .i64 0, .int .i64 0, .int .i64 0, S [], S [], S [], .int .i64 0, .slice none 0 0] 30))
    clear h hT
    go_enter Tryz.func90, Tryz.ntmps90
    go_wp2_with fail
    (with_reducible refine (emust_yes _ _).mono ?_)
    rintro e w1 ⟨rfl, rfl⟩
    go_wp2_with fail
    refine (HR.out _ bs g cap ts k (d + 1) _ (by omega) (H.out.bl HB0.out) HT.out (by omega) HN.out).mono ?_
    intro e w5 hp
    obtain ⟨hg5, k5, hs5, hcase⟩ := hp.open
    clear hp
    have HF5 := Lib.hid (HF0.out.next hbl hg5)
    have HS5 := Lib.hid hs5
    rcases hcase with ⟨yk, y1, y2, y3, yt, yn, yo, ya, ysv, ycv, hr5, hA, rfl⟩ | ⟨c, hc, hr5, rfl⟩
    · have HR5 := Lib.hid hr5
      have HA5 := Lib.hid (show ReadsP (fun b => W.heap.size + 2 ≤ b) w5 (.slice ysv ya.length ycv) ya from hA.of fun b _ (hb : _ ≤ b) => by (try simp at hb); omega)
      obtain ⟨⟨e0, e1, e2, e3, e4, e5, e6, e7⟩, f0, f1, f3, f4, f5, f6, f7, f8⟩ := eight HF5.out.x
      clear hg5 hs5 hr5 hA x1
      go_wp2
      -- the answer's place is loaded and answered
      obtain ⟨⟨q0, q1, q2, q3, q4, q5, q6, q7⟩, -⟩ := eight (set8_heap (HF5.out).x (.int .i64 yk) (.int .i64 y1) (.int .i64 y2) (S y3) (S yt) (S yn) (.int .i64 yo) (.slice ysv ya.length ycv))
      refine bodyPost_ret (v := .agg #[.int .i64 yk, .int .i64 y1, .int .i64 y2, S y3, S yt, S yn, .int .i64 yo, .slice ysv ya.length ycv]) (by simp [results, Tryz.results90, go_sem, q0, q1, q2, q3, q4, q5, q6, q7]) rfl ?_
      exact HF5.out.fin hbl hgl HS5.out HA5.out HR5.out
    · clear hg5 hs5
      go_wp2
      exact ⟨rfl, XPost.no HF5.out.grown HS5.out hc (by first | rfl | exact hr5)⟩
  · have e1 : deeperR d (runR ts f (.rd n k (d + 1))) = .bad 260 := if_neg hlt
    rw [e1]
    have hl : ¬ (d : Int) < 60 := by omega
    clear e1 hne
    have H := Lib.hid h
    have HT := Lib.hid hT
    have hbl := h.lt'
    have hgl := h.gl
    have HF0 := Lib.hid (FrP.start W bs)
    have HB0 := Lib.hid (((Bl.refl W).alloc (.cells #[.pointer (some ⟨bs, 0, none⟩)] 80)).alloc (.cells #[.int .i64 0, .int .i64 0, .int .i64 0, S [], S [], S [], .int .i64 0, .slice none 0 0] 30))
    clear h hT
    go_enter Tryz.func90, Tryz.ntmps90
    go_wp2_with fail
    (with_reducible refine (emust_no _ _).mono ?_)
    rintro e w1 ⟨rfl, rfl⟩
    go_wp2
    exact ⟨rfl, XPost.no HF0.out.grown (H.out.bl HB0.out) (.inl rfl) rfl⟩
--END0
--BEGIN1
set_option maxHeartbeats 4000000 in
theorem enot_yes {f : Nat} (hR : RdP f 2) {W : World} {bs g cap k k' d : Nat} {ts : List Tok} (h : Strm W bs g cap ts k) (hT : TokOK ts) (hd : d ≤ 60) (ht : takeK ts k [sNot] = some k')
    (hne : ((deeperR d (runR ts f (.rd 2 k' (d + 1)))).bind fun k2 y => .good k2 (opE 16 [y])) ≠ .out) :
    Calls Tryz.prog 60 #[RV bs, .int .i64 (d : Int)] W (XPost bs g cap ts W ((deeperR d (runR ts f (.rd 2 k' (d + 1)))).bind fun k2 y => .good k2 (opE 16 [y]))) := by
  have HTK := Lib.hid ht
  have HR := Lib.hid hR
  have HNE := Lib.hid (bind_out hne)
  obtain ⟨R, HR0⟩ : ∃ R, Hid (R = deeperR d (runR ts f (.rd 2 k' (d + 1)))) := ⟨_, rfl⟩
  rw [← HR0.out]
  clear hne ht hR
  have H := Lib.hid h
  have HT := Lib.hid hT
  have hbl := h.lt'
  have hgl := h.gl
  have HF0 := Lib.hid (FrP.start W bs)
  have HB0 := Lib.hid (((Bl.refl W).alloc (.cells #[.pointer (some ⟨bs, 0, none⟩)] 80)).alloc (.cells #[.int .i64 0, .int .i64 0, .int .i64 0, S [], S [], S [], .int .i64 0, .slice none 0 0] 30))
  clear h hT
  go_enter Tryz.func60, Tryz.ntmps60
  go_wp2_with fail
  refine (etake_yes (H.out.bl HB0.out) [sNot] HTK.out _ 1 _ _ rfl rfl (by simp) (by simp)).mono ?_
  rintro e w1 ⟨rfl, hg1, hs1⟩
  have HF1 := Lib.hid (HF0.out.next hbl hg1)
  have HS1 := Lib.hid hs1
  have hz1 := HF1.out.size
  have p0 := cells1 HF1.out.r
  clear hg1 hs1
  go_wp2_with fail
  refine (edeeper_any HR.out HS1.out HT.out hd _ rfl HNE.out).mono ?_
  rw [← HR0.out]
  intro e w2 hp
  obtain ⟨hg2, k2, hs2, hcase⟩ := hp.open
  clear hp p0
  have HF2 := Lib.hid (HF1.out.next hbl hg2)
  have HS2 := Lib.hid hs2
  have hz2 := HF2.out.size
  rcases hcase with ⟨yk, y1, y2, y3, yt, yn, yo, ya, ysv, ycv, hr2, hA, rfl⟩ | ⟨c, hc, hr2, rfl⟩
  · have HR2 := Lib.hid hr2
    have HA2 := Lib.hid (show ReadsP (fun b => W.heap.size + 2 ≤ b) w2 (.slice ysv ya.length ycv) ya from hA.of fun b _ (hb : _ ≤ b) => by omega)
    clear hg2 hs2 hr2 hA
    go_wp2_with fail
    (with_reducible refine (eof_any 16 _ _ _ _).mono ?_)
    rintro e w3 ⟨rfl, hb3⟩
    have HB3 := Lib.hid (((Bl.refl w2).alloc _).call hb3)
    have HF3 := Lib.hid (HF2.out.bl HB3.out)
    have HSL := Lib.hid ((hb3.block w2.heap.size (by simp)).trans (heap_new' _ _ (k := w2.heap.size) rfl))
    obtain ⟨⟨e0, e1, e2, e3, e4, e5, e6, e7⟩, f0, f1, f3, f4, f5, f6, f7, f8⟩ := eight HF3.out.x
    clear hb3
    go_wp2
    -- the answer's place is loaded and answered
    obtain ⟨⟨q0, q1, q2, q3, q4, q5, q6, q7⟩, -⟩ := eight (set8_heap (HF3.out).x (.int .i64 3) (.int .i64 0) (.int .i64 0) (S []) (S []) (S []) (.int .i64 16) (.slice (some ⟨w2.heap.size, 0, none⟩) 1 1))
    refine bodyPost_ret (v := .agg #[.int .i64 3, .int .i64 0, .int .i64 0, S [], S [], S [], .int .i64 16, .slice (some ⟨w2.heap.size, 0, none⟩) 1 1]) (by simp [results, Tryz.results60, go_sem, q0, q1, q2, q3, q4, q5, q6, q7]) rfl ?_
    exact HF3.out.fin (ya := [.mk yk (y1, y2, y3) yt yn yo ya]) hbl hgl (HS2.out.bl HB3.out) (p_one (p := fun b => W.heap.size + 2 ≤ b) 1 (by omega) HSL.out (HA2.out.bl HB3.out)) (by rw [HR2.out]; rfl)
  · clear hg2 hs2
    go_wp2
    exact ⟨rfl, XPost.no HF2.out.grown HS2.out hc (by rw [hr2]; rfl)⟩
set_option maxHeartbeats 4000000 in
theorem esign_yes {f : Nat} (hR : RdP f 7) {W : World} {bs g cap k k' d : Nat} {ts : List Tok} (h : Strm W bs g cap ts k) (hT : TokOK ts) (hd : d ≤ 60) (ht : takeK ts k [[45]] = some k')
    (hne : ((deeperR d (runR ts f (.rd 7 k' (d + 1)))).bind fun k2 y => .good k2 (opE 15 [y])) ≠ .out) :
    Calls Tryz.prog 120 #[RV bs, .int .i64 (d : Int)] W (XPost bs g cap ts W ((deeperR d (runR ts f (.rd 7 k' (d + 1)))).bind fun k2 y => .good k2 (opE 15 [y]))) := by
  have HTK := Lib.hid ht
  have HR := Lib.hid hR
  have HNE := Lib.hid (bind_out hne)
  obtain ⟨R, HR0⟩ : ∃ R, Hid (R = deeperR d (runR ts f (.rd 7 k' (d + 1)))) := ⟨_, rfl⟩
  rw [← HR0.out]
  clear hne ht hR
  have H := Lib.hid h
  have HT := Lib.hid hT
  have hbl := h.lt'
  have hgl := h.gl
  have HF0 := Lib.hid (FrP.start W bs)
  have HB0 := Lib.hid (((Bl.refl W).alloc (.cells #[.pointer (some ⟨bs, 0, none⟩)] 80)).alloc (.cells #[.int .i64 0, .int .i64 0, .int .i64 0, S [], S [], S [], .int .i64 0, .slice none 0 0] 30))
  clear h hT
  go_enter Tryz.func120, Tryz.ntmps120
  go_wp2_with fail
  refine (etake_yes (H.out.bl HB0.out) [[45]] HTK.out _ 1 _ _ rfl rfl (by simp) (by simp)).mono ?_
  rintro e w1 ⟨rfl, hg1, hs1⟩
  have HF1 := Lib.hid (HF0.out.next hbl hg1)
  have HS1 := Lib.hid hs1
  have hz1 := HF1.out.size
  have p0 := cells1 HF1.out.r
  clear hg1 hs1
  go_wp2_with fail
  refine (edeeper_any HR.out HS1.out HT.out hd _ rfl HNE.out).mono ?_
  rw [← HR0.out]
  intro e w2 hp
  obtain ⟨hg2, k2, hs2, hcase⟩ := hp.open
  clear hp p0
  have HF2 := Lib.hid (HF1.out.next hbl hg2)
  have HS2 := Lib.hid hs2
  have hz2 := HF2.out.size
  rcases hcase with ⟨yk, y1, y2, y3, yt, yn, yo, ya, ysv, ycv, hr2, hA, rfl⟩ | ⟨c, hc, hr2, rfl⟩
  · have HR2 := Lib.hid hr2
    have HA2 := Lib.hid (show ReadsP (fun b => W.heap.size + 2 ≤ b) w2 (.slice ysv ya.length ycv) ya from hA.of fun b _ (hb : _ ≤ b) => by omega)
    clear hg2 hs2 hr2 hA
    go_wp2_with fail
    (with_reducible refine (eof_any 15 _ _ _ _).mono ?_)
    rintro e w3 ⟨rfl, hb3⟩
    have HB3 := Lib.hid (((Bl.refl w2).alloc _).call hb3)
    have HF3 := Lib.hid (HF2.out.bl HB3.out)
    have HSL := Lib.hid ((hb3.block w2.heap.size (by simp)).trans (heap_new' _ _ (k := w2.heap.size) rfl))
    obtain ⟨⟨e0, e1, e2, e3, e4, e5, e6, e7⟩, f0, f1, f3, f4, f5, f6, f7, f8⟩ := eight HF3.out.x
    clear hb3
    go_wp2
    -- the answer's place is loaded and answered
    obtain ⟨⟨q0, q1, q2, q3, q4, q5, q6, q7⟩, -⟩ := eight (set8_heap (HF3.out).x (.int .i64 3) (.int .i64 0) (.int .i64 0) (S []) (S []) (S []) (.int .i64 15) (.slice (some ⟨w2.heap.size, 0, none⟩) 1 1))
    refine bodyPost_ret (v := .agg #[.int .i64 3, .int .i64 0, .int .i64 0, S [], S [], S [], .int .i64 15, .slice (some ⟨w2.heap.size, 0, none⟩) 1 1]) (by simp [results, Tryz.results120, go_sem, q0, q1, q2, q3, q4, q5, q6, q7]) rfl ?_
    exact HF3.out.fin (ya := [.mk yk (y1, y2, y3) yt yn yo ya]) hbl hgl (HS2.out.bl HB3.out) (p_one (p := fun b => W.heap.size + 2 ≤ b) 1 (by omega) HSL.out (HA2.out.bl HB3.out)) (by rw [HR2.out]; rfl)
  · clear hg2 hs2
    go_wp2
    exact ⟨rfl, XPost.no HF2.out.grown HS2.out hc (by rw [hr2]; rfl)⟩
--END1
--BEGIN2
set_option maxHeartbeats 4000000 in
theorem enot_no {f : Nat} (hR : RdP f 3) {W : World} {bs g cap k d : Nat} {ts : List Tok} (h : Strm W bs g cap ts k) (hT : TokOK ts) (hd : d ≤ 60) (ht : takeK ts k [sNot] = none) (hne : runR ts f (.rd 3 k d) ≠ .out) :
    Calls Tryz.prog 60 #[RV bs, .int .i64 (d : Int)] W (XPost bs g cap ts W (runR ts f (.rd 3 k d))) := by
  have HTK := Lib.hid ht
  have HR := Lib.hid hR
  have HNE := Lib.hid hne
  have hen := enters_rdF 3
  clear hne ht hR
  have H := Lib.hid h
  have HT := Lib.hid hT
  have hbl := h.lt'
  have hgl := h.gl
  have HF0 := Lib.hid (FrP.start W bs)
  have HB0 := Lib.hid (((Bl.refl W).alloc (.cells #[.pointer (some ⟨bs, 0, none⟩)] 80)).alloc (.cells #[.int .i64 0, .int .i64 0, .int .i64 0, S [], S [], S [], .int .i64 0, .slice none 0 0] 30))
  clear h hT
  go_enter Tryz.func60, Tryz.ntmps60
  go_wp2_with fail
  refine (etake_no (H.out.bl HB0.out) [sNot] HTK.out _ 1 _ _ rfl rfl (by simp) (by simp)).mono ?_
  rintro e w1 ⟨rfl, hg1, hs1⟩
  have HF1 := Lib.hid (HF0.out.next hbl hg1)
  have HS1 := Lib.hid hs1
  have hz1 := HF1.out.size
  clear hg1 hs1
  go_wp2_with fail
  refine (wp_region_sd (fun B => B.heap[W.heap.size]? = some (.cells #[.pointer (some ⟨bs, 0, none⟩)] 80 (0, 0))) ((.take 2 (.take 3 (.one 0 (.take 1 (.one 4 (.one 5 .done))))))) (by kernel_rfl) (by kernel_rfl) (by kernel_rfl) (fun c a d v w h => by cases d <;> exact h) ((HF1.out.bl ((Bl.refl _).drew)).r) ?_) -- wp_region_sc 
  intro wd HWD hHeld
  refine sc_take' rfl (by rfl) (by intro w hSw; (try dsimp only at hSw); have a0 := cells1 hSw; go_simp; (try (first | with_reducible rfl | rfl))) ?_; (try simp only [Act.put, List.setIfInBounds_toArray, List.set_cons_zero, List.set_cons_succ])
  refine sc_take' rfl (by rfl) (by intro w hSw; (try dsimp only at hSw); have a0 := cells1 hSw; go_simp; (try (first | with_reducible rfl | rfl))) ?_; (try simp only [Act.put, List.setIfInBounds_toArray, List.set_cons_zero, List.set_cons_succ])
  refine sc_call' rfl (fun K hK => ?_); go_simp; ((with_reducible refine (elevels_any _).mono ?_); rintro e w2 ⟨rfl, hb2⟩; have HB2 := Lib.hid (HWD.out.call hb2); have HF2 := Lib.hid (HF1.out.bl HB2.out); have hz2 := HF2.out.size; clear hb2); go_wp2_with fail; refine hK.out _ _ ((by first | exact HF5.out.r | exact HF2.out.r)) (fun hHeld2 => ?_); clear hHeld hK K; have hHeld := hHeld2; clear hHeld2
  refine sc_take' rfl (by rfl) (by intro w hSw; (try dsimp only at hSw); have a0 := cells1 hSw; go_simp; (try (first | with_reducible rfl | rfl))) ?_; (try simp only [Act.put, List.setIfInBounds_toArray, List.set_cons_zero, List.set_cons_succ])
  refine sc_call' rfl (fun K hK => ?_); go_simp; (refine (HR.out _ bs g cap ts k d _ rfl (HS1.out.bl HB2.out) HT.out hd HNE.out).mono ?_; intro e w5 hp; obtain ⟨hg5, k5, hs5, hcase⟩ := hp.open; clear hp; have HF5 := Lib.hid (HF2.out.next hbl hg5); have HS5 := Lib.hid hs5; rcases hcase with ⟨yk, y1, y2, y3, yt, yn, yo, ya, ysv, ycv, hr5, hA, rfl⟩ | ⟨c, hc, hr5, rfl⟩; rotate_left; (· go_wp2; exact ⟨rfl, XPost.no HF5.out.grown HS5.out hc (by first | rfl | exact hr5)⟩); have HR5 := Lib.hid hr5; have HA5 := Lib.hid (show ReadsP (fun b => W.heap.size + 2 ≤ b) w5 (.slice ysv ya.length ycv) ya from hA.of fun b _ (hb : _ ≤ b) => by omega); clear hg5 hs5 hr5 hA); go_wp2_with fail; refine hK.out _ _ ((by first | exact HF5.out.r | exact HF2.out.r)) (fun hHeld2 => ?_); clear hHeld hK K; have hHeld := hHeld2; clear hHeld2
  obtain ⟨⟨e0, e1, e2, e3, e4, e5, e6, e7⟩, f0, f1, f3, f4, f5, f6, f7, f8⟩ := eight HF5.out.x
  refine sc_call' rfl (fun K hK => ?_); go_simp; refine hK.out _ _ (((set8_other _ (b := W.heap.size + 1) (by omega) _ _ _ _ _ _ _ _).trans HF5.out.r)) (fun hHeld2 => ?_); clear hHeld hK K; have hHeld := hHeld2; clear hHeld2
  clear e0 e1 e2 e3 e4 e5 e6 e7 f0 f1 f3 f4 f5 f6 f7 f8
  refine sc_nil ?_
  go_wp2
  obtain ⟨⟨q0, q1, q2, q3, q4, q5, q6, q7⟩, -⟩ := eight (set8_heap HF5.out.x (.int .i64 yk) (.int .i64 y1) (.int .i64 y2) (S y3) (S yt) (S yn) (.int .i64 yo) (.slice ysv ya.length ycv))
  exact bodyPost_ret (v := EV yk (y1, y2, y3) yt yn yo (.slice ysv ya.length ycv)) (by simp [results, Tryz.results60, go_sem, q0, q1, q2, q3, q4, q5, q6, q7]) rfl (HF5.out.fin hbl hgl HS5.out HA5.out HR5.out)
--END2
--BEGIN3
/-- What alone answers. -/
def AloneP (f : Nat) : Prop := ∀ (W : World) (bs g cap : Nat) (ts : List Tok) (k d : Nat), Strm W bs g cap ts k → TokOK ts → d ≤ 60 → aloneR ts (runR ts f) k d ≠ .out →
  Calls Tryz.prog 140 #[RV bs, .int .i64 (d : Int)] W (XPost bs g cap ts W (aloneR ts (runR ts f) k d))
set_option maxHeartbeats 4000000 in
theorem esign_no {f : Nat} (hR : AloneP f) {W : World} {bs g cap k d : Nat} {ts : List Tok} (h : Strm W bs g cap ts k) (hT : TokOK ts) (hd : d ≤ 60) (ht : takeK ts k [[45]] = none) (hne : aloneR ts (runR ts f) k d ≠ .out) :
    Calls Tryz.prog 120 #[RV bs, .int .i64 (d : Int)] W (XPost bs g cap ts W (aloneR ts (runR ts f) k d)) := by
  have HTK := Lib.hid ht
  have HR := Lib.hid hR
  have HNE := Lib.hid hne
  clear hne ht hR
  have H := Lib.hid h
  have HT := Lib.hid hT
  have hbl := h.lt'
  have hgl := h.gl
  have HF0 := Lib.hid (FrP.start W bs)
  have HB0 := Lib.hid (((Bl.refl W).alloc (.cells #[.pointer (some ⟨bs, 0, none⟩)] 80)).alloc (.cells #[.int .i64 0, .int .i64 0, .int .i64 0, S [], S [], S [], .int .i64 0, .slice none 0 0] 30))
  clear h hT
  go_enter Tryz.func120, Tryz.ntmps120
  go_wp2_with fail
  refine (etake_no (H.out.bl HB0.out) [[45]] HTK.out _ 1 _ _ rfl rfl (by simp) (by simp)).mono ?_
  rintro e w1 ⟨rfl, hg1, hs1⟩
  have HF1 := Lib.hid (HF0.out.next hbl hg1)
  have HS1 := Lib.hid hs1
  have hz1 := HF1.out.size
  have p0 := cells1 HF1.out.r
  clear hg1 hs1
  go_wp2_with fail
  refine (HR.out _ bs g cap ts k d HS1.out HT.out hd HNE.out).mono ?_
  intro e w5 hp
  obtain ⟨hg5, k5, hs5, hcase⟩ := hp.open
  clear hp p0
  have HF5 := Lib.hid (HF1.out.next hbl hg5)
  have HS5 := Lib.hid hs5
  rcases hcase with ⟨yk, y1, y2, y3, yt, yn, yo, ya, ysv, ycv, hr5, hA, rfl⟩ | ⟨c, hc, hr5, rfl⟩
  · have HR5 := Lib.hid hr5
    have HA5 := Lib.hid (show ReadsP (fun b => W.heap.size + 2 ≤ b) w5 (.slice ysv ya.length ycv) ya from hA.of fun b _ (hb : _ ≤ b) => by omega)
    obtain ⟨⟨e0, e1, e2, e3, e4, e5, e6, e7⟩, f0, f1, f3, f4, f5, f6, f7, f8⟩ := eight HF5.out.x
    clear hg5 hs5 hr5 hA
    go_wp2
    -- the answer's place is loaded and answered
    obtain ⟨⟨q0, q1, q2, q3, q4, q5, q6, q7⟩, -⟩ := eight (set8_heap (HF5.out).x (.int .i64 yk) (.int .i64 y1) (.int .i64 y2) (S y3) (S yt) (S yn) (.int .i64 yo) (.slice ysv ya.length ycv))
    refine bodyPost_ret (v := .agg #[.int .i64 yk, .int .i64 y1, .int .i64 y2, S y3, S yt, S yn, .int .i64 yo, .slice ysv ya.length ycv]) (by simp [results, Tryz.results120, go_sem, q0, q1, q2, q3, q4, q5, q6, q7]) rfl ?_
    exact HF5.out.fin hbl hgl HS5.out HA5.out HR5.out
  · clear hg5 hs5
    go_wp2
    exact ⟨rfl, XPost.no HF5.out.grown HS5.out hc (by first | rfl | exact hr5)⟩
--END3

end Go.Proofs.YtepkfkfedmbmnaaGreatDoor

